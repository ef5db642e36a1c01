import PyProof.Rows.All
import Wide.All
import OpenK.AllK
import Wide.FinOn
import HandS.ForMost
import HandS.Exc
import HandS.CallSlots
import HandS.TupAny
import HandS.Wide
import HandS.Style
import HandS.Property
import HandS.Star
import HandS.ClsMeth
import HandS.WordsExc
import HandS.IsInst
import HandS.ExcInit
import HandS.ExcOwn
import HandS.FStr
import PySem.Challenge.RW_tapecounters_k11_whole_later_decks
set_option Elab.async false
set_option linter.all false
set_option maxRecDepth 100000
set_option maxHeartbeats 2000000
/-! DL1: data, what bears them in the abstract heap, canonical readings. -/
namespace DL
open PySem PySem.Spec PyProof.Rows L2

/-! ### data -/
inductive D where
  | non | bl (b : Bool) | int (i : Int) | str (x : Str) | byt (b : Array UInt8)
  | tup (ds : List D) | lst (ds : List D) | dct (kvs : List (Key × D))
  | deck (c g : Int) | tape (ss : List (Str × Int))
  | ref (a : Addr) | ty (n : String) | scr (ns : List Int)
/-- a song as data -/
def songD (p : Str × Int) : D := .tup [.str p.1, .int p.2]
/-- first cells -/
def begsV : Int → List (Str × Int) → List (Key × V)
  | _, [] => []
  | b, (n, l) :: r => (.inr n, .int b) :: begsV (b + l) r
def total (ss : List (Str × Int)) : Int := (ss.map (·.2)).sum
/-- what an owned object holds -/
inductive OS where
  | lst (ds : List D) | ins (C : Addr) (fs : List (Str × D)) | dct (kvs : List (Key × D))
abbrev O := Addr → Option OS
def updO (o : O) (a : Addr) (x : OS) : O := fun b => if b = a then some x else o b
theorem updO_same {o : O} {a : Addr} {x : OS} : updO o a x a = some x := by unfold updO; rw [if_pos rfl]
theorem updO_ne {o : O} {a b : Addr} {x : OS} (h : b ≠ a) : updO o a x b = o b := by unfold updO; rw [if_neg h]
theorem updO_updO {o : O} {a : Addr} {x y : OS} : updO (updO o a x) a y = updO o a y := by
  funext b; unfold updO; split <;> rfl
theorem updO_self {o : O} {a : Addr} {x : OS} (h : o a = some x) : updO o a x = o := by
  funext b; unfold updO; split
  · rename_i e; rw [e, h]
  · rfl
/-- the classes of the text -/
structure Tx where
  deck : Addr
  tape : Addr
def fDeck (c g : Int) : List (Str × V) := putF "more" (.int g) (putF "first" (.int c) [])
def fTape (t b : Addr) (n : Int) : List (Str × V) := putF "total" (.int n) (putF "begins" (.ref b) (putF "listed" (.ref t) []))
def hp0 : Hp := fun _ => none
def SqTm (K : PySem.W.Frag) (H : Hp) (o : O) (a : Addr) (xs : List V) : Prop := (Rd H a (.tup xs) ∧ o a = none) ∨ SqT K hp0 a xs
def SqLm (K : PySem.W.Frag) (H : Hp) (o : O) (a : Addr) (xs : List V) : Prop := (Rd H a (.lst xs) ∧ o a = none) ∨ SqL K hp0 a xs
theorem rd0 {a : Addr} {u : HO} (h : Rd hp0 a u) : False := by
  rcases h with h | ⟨_, h⟩ <;> cases h
theorem SqTm.to {K : PySem.W.Frag} {H : Hp} {o : O} {a : Addr} {xs : List V} (h : SqTm K H o a xs) : SqT K H a xs := by
  rcases h with h | h | h
  · exact .inl h.1
  · exact (rd0 h).elim
  · exact .inr h
theorem SqLm.to {K : PySem.W.Frag} {H : Hp} {o : O} {a : Addr} {xs : List V} (h : SqLm K H o a xs) : SqL K H a xs := by
  rcases h with h | h | h
  · exact .inl h.1
  · exact (rd0 h).elim
  · exact .inr h

mutual
/-- the value v bears the datum d -/
inductive R (K : PySem.W.Frag) (τ : Tx) (H : Hp) (o : O) : V → D → Prop where
  | non : R K τ H o .non .non
  | bl (b : Bool) : R K τ H o (.bl b) (.bl b)
  | int (i : Int) : R K τ H o (.int i) (.int i)
  | str (x : Str) : R K τ H o (.str x) (.str x)
  | byt (x : Array UInt8) : R K τ H o (.byt x) (.byt x)
  | ref (a : Addr) : R K τ H o (.ref a) (.ref a)
  | ty (n : String) : R K τ H o (.ty n) (.ty n)
  | tup {a : Addr} {vs : List V} {ds : List D} (h : SqTm K H o a vs) (r : Rs K τ H o vs ds) : R K τ H o (.ref a) (.tup ds)
  | lst {a : Addr} {vs : List V} {ds : List D} (h : H a = some (.lst vs)) (n : o a = none) (r : Rs K τ H o vs ds) : R K τ H o (.ref a) (.lst ds)
  | scr {a : Addr} {ns : List Int} (h : SqLm K H o a (ns.map V.int)) : R K τ H o (.ref a) (.scr ns)
  | dct {a : Addr} {kvs : List (Key × V)} {kds : List (Key × D)} (h : H a = some (.dK kvs)) (n : o a = none) (r : Rk K τ H o kvs kds) : R K τ H o (.ref a) (.dct kds)
  | deck {a dx : Addr} {c g : Int} (h : H a = some (.ins τ.deck dx (fDeck c g))) (n : o a = none) : R K τ H o (.ref a) (.deck c g)
  | tape {a dx t b : Addr} {ss : List (Str × Int)} (h : H a = some (.ins τ.tape dx (fTape t b (total ss)))) (n : o a = none) (r : R K τ H o (.ref t) (.tup (ss.map songD)))
      (hb : H b = some (.dK (begsV 0 ss))) (nb : o b = none) : R K τ H o (.ref a) (.tape ss)
inductive Rs (K : PySem.W.Frag) (τ : Tx) (H : Hp) (o : O) : List V → List D → Prop where
  | nil : Rs K τ H o [] []
  | cons {v : V} {d : D} {vs : List V} {ds : List D} (h : R K τ H o v d) (r : Rs K τ H o vs ds) : Rs K τ H o (v :: vs) (d :: ds)
inductive Rk (K : PySem.W.Frag) (τ : Tx) (H : Hp) (o : O) : List (Key × V) → List (Key × D) → Prop where
  | nil : Rk K τ H o [] []
  | cons {k : Key} {v : V} {d : D} {vs : List (Key × V)} {ds : List (Key × D)} (h : R K τ H o v d) (r : Rk K τ H o vs ds) : Rk K τ H o ((k, v) :: vs) ((k, d) :: ds)
end
inductive Rf (K : PySem.W.Frag) (τ : Tx) (H : Hp) (o : O) : List (Str × V) → List (Str × D) → Prop where
  | nil : Rf K τ H o [] []
  | cons {k : Str} {v : V} {d : D} {vs : List (Str × V)} {ds : List (Str × D)} (h : R K τ H o v d) (r : Rf K τ H o vs ds) : Rf K τ H o ((k, v) :: vs) ((k, d) :: ds)

/-- what is not owned stands as it stood, and nobody owns it -/
def Le (H : Hp) (o : O) (H' : Hp) (o' : O) : Prop := ∀ a x, o a = none → H a = some x → H' a = some x ∧ o' a = none
theorem Le.refl {H : Hp} {o : O} : Le H o H o := fun _ _ n h => ⟨h, n⟩
theorem Le.trans {H H1 H2 : Hp} {o o1 o2 : O} (a : Le H o H1 o1) (b : Le H1 o1 H2 o2) : Le H o H2 o2 := fun x u n h => b x u (a x u n h).2 (a x u n h).1
/-- a new object -/
theorem Le.new {H : Hp} {o : O} {p : Addr} {u : HO} (h : H p = none) : Le H o (upd H p u) o := fun a x n e => ⟨by rw [upd_ne (ne_of_none e h)]; exact e, n⟩
theorem Le.newO {H : Hp} {o : O} {p : Addr} {u : HO} {y : OS} (h : H p = none) : Le H o (upd H p u) (updO o p y) := fun a x n e => by
  have q := ne_of_none e h
  exact ⟨by rw [upd_ne q]; exact e, by rw [updO_ne q]; exact n⟩
/-- an owned object is written -/
theorem Le.write {H : Hp} {o : O} {p : Addr} {u : HO} {y z : OS} (h : o p = some z) : Le H o (upd H p u) (updO o p y) := fun a x n e => by
  have q : a ≠ p := fun q => by rw [q, h] at n; cases n
  exact ⟨by rw [upd_ne q]; exact e, by rw [updO_ne q]; exact n⟩
theorem Le.rd {H H' : Hp} {o o' : O} (l : Le H o H' o') {a : Addr} {u : HO} (n : o a = none) (h : Rd H a u) : Rd H' a u ∧ o' a = none := by
  rcases h with h | ⟨ob, h⟩
  · exact ⟨.inl (l a _ n h).1, (l a _ n h).2⟩
  · exact ⟨.inr ⟨ob, (l a _ n h).1⟩, (l a _ n h).2⟩
section
variable {K : PySem.W.Frag} {τ : Tx} {H H' : Hp} {o o' : O}
theorem SqTm.mono (l : Le H o H' o') {a : Addr} {xs : List V} (h : SqTm K H o a xs) : SqTm K H' o' a xs := by
  rcases h with h | h
  · exact .inl (l.rd h.2 h.1)
  · exact .inr h
theorem SqLm.mono (l : Le H o H' o') {a : Addr} {xs : List V} (h : SqLm K H o a xs) : SqLm K H' o' a xs := by
  rcases h with h | h
  · exact .inl (l.rd h.2 h.1)
  · exact .inr h
mutual
theorem R.mono (l : Le H o H' o') {v : V} {d : D} : R K τ H o v d → R K τ H' o' v d
  | .non => .non
  | .bl b => .bl b
  | .int i => .int i
  | .str x => .str x
  | .byt x => .byt x
  | .ref a => .ref a
  | .ty n => .ty n
  | .tup h r => .tup (h.mono l) (r.mono l)
  | .lst h n r => .lst (l _ _ n h).1 (l _ _ n h).2 (r.mono l)
  | .scr h => .scr (h.mono l)
  | .dct h n r => .dct (l _ _ n h).1 (l _ _ n h).2 (r.mono l)
  | .deck h n => .deck (l _ _ n h).1 (l _ _ n h).2
  | .tape h n r hb nb => .tape (l _ _ n h).1 (l _ _ n h).2 (r.mono l) (l _ _ nb hb).1 (l _ _ nb hb).2
theorem Rs.mono (l : Le H o H' o') {vs : List V} {ds : List D} : Rs K τ H o vs ds → Rs K τ H' o' vs ds
  | .nil => .nil
  | .cons h r => .cons (h.mono l) (r.mono l)
theorem Rk.mono (l : Le H o H' o') {vs : List (Key × V)} {ds : List (Key × D)} : Rk K τ H o vs ds → Rk K τ H' o' vs ds
  | .nil => .nil
  | .cons h r => .cons (h.mono l) (r.mono l)
end
theorem Rf.mono (l : Le H o H' o') {vs : List (Str × V)} {ds : List (Str × D)} (r : Rf K τ H o vs ds) : Rf K τ H' o' vs ds := by
  induction r with
  | nil => exact .nil
  | cons h r ih => exact .cons (h.mono l) ih
end
end DL

set_option Elab.async false
set_option linter.all false
set_option maxRecDepth 100000
set_option maxHeartbeats 2000000
/-! DL2: canonical readings; judgements over data. -/
namespace DL
open PySem PySem.Spec PyProof.Rows L2

/-! ### canonical readings -/
section
variable (X : Cx)
def cE (e : Expr) : TE := fun σ H Q => ∀ pins s, Inv X pins σ H s → wpAny (model X.prog X.w) X.A (eval e X.env) (EP X pins σ Q) X.xe s
def cT (e : Expr) : TT := fun σ H Q => ∀ pins s, Inv X pins σ H s → wpAny (model X.prog X.w) X.A (isTrue e X.env (eval e X.env)) (TP X pins σ Q) X.xe s
def cW (e : Expr) : TT := fun σ H Q => ∀ whole pins s, Inv X pins σ H s → wpAny (model X.prog X.w) X.A (isTrue e X.env whole) (TP X pins σ Q) X.xe s
def cA (es : List Expr) : TA := fun σ H Q => ∀ pos pins s, Inv X pins σ H s → wpAny (model X.prog X.w) X.A (spliced (backTo pos (starEach es X.env))) (AP X pins σ Q) X.xe s
def cS (st : Stmt) : TS := fun D σ H => ∀ pins s, Inv X pins σ H s → wpAny (model X.prog X.w) X.A (exec st X.env) (SP X pins D) X.xe s
def cSs (st : List Stmt) : TS := fun D σ H => ∀ pins s, Inv X pins σ H s → wpAny (model X.prog X.w) X.A (execs st X.env) (SP X pins D) X.xe s
def cG (tg : Expr) : TG := fun v σ H Q => ∀ pins s u, Inv X pins σ H s → RelV v u → wpAny (model X.prog X.w) X.A (assign tg X.env u) (fun _ s' => ∃ σ' H', Inv X pins σ' H' s' ∧ Q σ' H') X.xe s
def cGs (tgs : List Expr) : TGs := fun vs σ H Q => ∀ pins s us, Inv X pins σ H s → Vals vs us → wpAny (model X.prog X.w) X.A (assignInOrder ((assignEach tgs X.env).map (·.2)) us) (fun _ s' => ∃ σ' H', Inv X pins σ' H' s' ∧ Q σ' H') X.xe s
def cI (tg iter : Expr) : TI := fun σ H Q => ∀ pins s, Inv X pins σ H s → wpAny (model X.prog X.w) X.A (eval iter X.env) (fun v s1 => wpAny (model X.prog X.w) X.A (pyIter v) (PIE X pins σ tg Q) X.xe s1) X.xe s
end
section
variable {X : Cx} {e : Expr} {es : List Expr} {σ : L2.St} {H : Hp}
theorem pe_c : PE X e (cE X e) := ⟨fun pins s _ _ _ I h => h pins s I⟩
theorem pt_c : PT X e (cT X e) := ⟨fun pins s _ _ _ I h => h pins s I⟩
theorem pw_c : PW X e (cW X e) := ⟨fun whole pins s _ _ _ I h => h whole pins s I⟩
theorem pa_c : PA X es (cA X es) := ⟨fun pos pins s _ _ _ I h => h pos pins s I⟩
theorem ps_c {st : Stmt} : PS X st (cS X st) := ⟨fun pins s _ _ _ I h => h pins s I⟩
theorem pss_c {st : List Stmt} : PSs X st (cSs X st) := ⟨fun pins s _ _ _ I h => h pins s I⟩
theorem pg_c : PG X e (cG X e) := ⟨fun pins s _ _ _ u _ I r h => h pins s u I r⟩
theorem pgs_c : PGs X es (cGs X es) := ⟨fun pins s _ _ _ us _ I r h => h pins s us I r⟩
theorem pi_c {tg : Expr} : PI X tg e (cI X tg e) := ⟨fun pins s _ _ _ I h => h pins s I⟩
theorem cE_of {t : TE} {Q : VK} (p : PE X e t) (h : t σ H Q) : cE X e σ H Q := fun pins s I => p.run pins s σ H Q I h
theorem cT_of {t : TT} {Q : Bool → Hp → Prop} (p : PT X e t) (h : t σ H Q) : cT X e σ H Q := fun pins s I => p.run pins s σ H Q I h
theorem cW_of {t : TT} {Q : Bool → Hp → Prop} (p : PW X e t) (h : t σ H Q) : cW X e σ H Q := fun whole pins s I => p.run whole pins s σ H Q I h
theorem cA_of {t : TA} {Q : List V → Hp → Prop} (p : PA X es t) (h : t σ H Q) : cA X es σ H Q := fun pos pins s I => p.run pos pins s σ H Q I h
theorem cS_of {st : Stmt} {t : TS} {D : Ends} (p : PS X st t) (h : t D σ H) : cS X st D σ H := fun pins s I => p.run pins s σ H D I h
theorem cSs_of {st : List Stmt} {t : TS} {D : Ends} (p : PSs X st t) (h : t D σ H) : cSs X st D σ H := fun pins s I => p.run pins s σ H D I h
theorem cG_of {t : TG} {v : V} {Q : L2.St → Hp → Prop} (p : PG X e t) (h : t v σ H Q) : cG X e v σ H Q := fun pins s u I r => p.run pins s σ H v u Q I r h
theorem cGs_of {t : TGs} {vs : List V} {Q : L2.St → Hp → Prop} (p : PGs X es t) (h : t vs σ H Q) : cGs X es vs σ H Q := fun pins s us I r => p.run pins s σ H vs us Q I r h
theorem cI_of {tg : Expr} {t : TI} {Q : It → Hp → Prop} (p : PI X tg e t) (h : t σ H Q) : cI X tg e σ H Q := fun pins s I => p.run pins s σ H Q I h
theorem EP.imp {pins : List (Addr × Obj)} {Q Q' : VK} {u : Value} {s : Shared} (h : EP X pins σ Q u s) (k : ∀ v H', Q v H' → Q' v H') : EP X pins σ Q' u s :=
  let ⟨v, H', I, r, q⟩ := h; ⟨v, H', I, r, k v H' q⟩
theorem cE_mono {Q Q' : VK} (h : cE X e σ H Q) (k : ∀ v H', Q v H' → Q' v H') : cE X e σ H Q' := fun pins s I => thn (h pins s I) fun _ _ q => EP.imp q k
theorem cT_mono {Q Q' : Bool → Hp → Prop} (h : cT X e σ H Q) (k : ∀ v H', Q v H' → Q' v H') : cT X e σ H Q' := fun pins s I => thn (h pins s I) fun _ _ ⟨H', I', q⟩ => ⟨H', I', k _ _ q⟩
theorem cW_mono {Q Q' : Bool → Hp → Prop} (h : cW X e σ H Q) (k : ∀ v H', Q v H' → Q' v H') : cW X e σ H Q' := fun whole pins s I => thn (h whole pins s I) fun _ _ ⟨H', I', q⟩ => ⟨H', I', k _ _ q⟩
theorem cA_mono {Q Q' : List V → Hp → Prop} (h : cA X es σ H Q) (k : ∀ v H', Q v H' → Q' v H') : cA X es σ H Q' := fun pos pins s I => thn (h pos pins s I) fun _ _ ⟨vs, H', I', r, q⟩ => ⟨vs, H', I', r, k _ _ q⟩
theorem cG_mono {v : V} {Q Q' : L2.St → Hp → Prop} (h : cG X e v σ H Q) (k : ∀ v H', Q v H' → Q' v H') : cG X e v σ H Q' := fun pins s u I r => thn (h pins s u I r) fun _ _ ⟨σ', H', I', q⟩ => ⟨σ', H', I', k _ _ q⟩
theorem cGs_mono {vs : List V} {Q Q' : L2.St → Hp → Prop} (h : cGs X es vs σ H Q) (k : ∀ v H', Q v H' → Q' v H') : cGs X es vs σ H Q' := fun pins s u I r => thn (h pins s u I r) fun _ _ ⟨σ', H', I', q⟩ => ⟨σ', H', I', k _ _ q⟩
theorem SP.imp {pins : List (Addr × Obj)} {D D' : Ends} {f : Flow} {s : Shared} (h : SP X pins D f s) (kn : ∀ σ H, D.nx σ H → D'.nx σ H) (kr : ∀ v H, D.rt v H → D'.rt v H) (kb : ∀ σ H, D.bk σ H → D'.bk σ H) (kc : ∀ σ H, D.ct σ H → D'.ct σ H) : SP X pins D' f s := by
  cases f with
  | next => obtain ⟨σ', H', I, q⟩ := h; exact ⟨σ', H', I, kn _ _ q⟩
  | brk => obtain ⟨σ', H', I, q⟩ := h; exact ⟨σ', H', I, kb _ _ q⟩
  | cont => obtain ⟨σ', H', I, q⟩ := h; exact ⟨σ', H', I, kc _ _ q⟩
  | ret u => obtain ⟨v, σ', H', I, r, q⟩ := h; exact ⟨v, σ', H', I, r, kr _ _ q⟩
theorem cS_mono {st : Stmt} {D D' : Ends} (h : cS X st D σ H) (kn : ∀ σ H, D.nx σ H → D'.nx σ H) (kr : ∀ v H, D.rt v H → D'.rt v H) (kb : ∀ σ H, D.bk σ H → D'.bk σ H) (kc : ∀ σ H, D.ct σ H → D'.ct σ H) : cS X st D' σ H :=
  fun pins s I => thn (h pins s I) fun _ _ q => SP.imp q kn kr kb kc
theorem cSs_mono {st : List Stmt} {D D' : Ends} (h : cSs X st D σ H) (kn : ∀ σ H, D.nx σ H → D'.nx σ H) (kr : ∀ v H, D.rt v H → D'.rt v H) (kb : ∀ σ H, D.bk σ H → D'.bk σ H) (kc : ∀ σ H, D.ct σ H → D'.ct σ H) : cSs X st D' σ H :=
  fun pins s I => thn (h pins s I) fun _ _ q => SP.imp q kn kr kb kc
end

/-! ### the state over data -/
abbrev Δ := List (Option D)
/-- what owned objects hold -/
def OR (K : PySem.W.Frag) (τ : Tx) (H : Hp) (o : O) (a : Addr) : OS → Prop
  | .lst ds => ∃ vs, H a = some (.lst vs) ∧ Rs K τ H o vs ds
  | .ins C fs => ∃ dx gs, H a = some (.ins C dx gs) ∧ Rf K τ H o gs fs
  | .dct kvs => ∃ gs, H a = some (.dK gs) ∧ Rk K τ H o gs kvs
def Own (K : PySem.W.Frag) (τ : Tx) (H : Hp) (o : O) : Prop := ∀ a x, o a = some x → OR K τ H o a x
/-- an exception as data: its class, its fields -/
structure DX where
  C : Addr
  fs : List (Str × D)
def RX (K : PySem.W.Frag) (τ : Tx) (H : Hp) (o : O) (cls : Value) (dx : Option Addr) (x : DX) : Prop :=
  cls = .ref x.C ∧ ((dx = none ∧ x.fs = []) ∨ ∃ d gs, dx = some d ∧ H d = some (.xd gs) ∧ o d = none ∧ Rf K τ H o gs x.fs)
structure Okk (K : PySem.W.Frag) (τ : Tx) (H0 : Hp) (o0 : O) (σ : L2.St) (H : Hp) (δ : Δ) (o : O) : Prop where
  le : Le H0 o0 H o
  own : Own K τ H o
  len : σ.length = δ.length
  slot : ∀ (i : Nat) (d : D), δ[i]? = some (some d) → ∃ v, σ[i]? = some (some v) ∧ R K τ H o v d
theorem Okk.step {K : PySem.W.Frag} {τ : Tx} {H0 H H' : Hp} {o0 o o' : O} {σ : L2.St} {δ : Δ} (k : Okk K τ H0 o0 σ H δ o) (l : Le H o H' o') (w : Own K τ H' o') : Okk K τ H0 o0 σ H' δ o' :=
  ⟨k.le.trans l, w, k.len, fun i d h => let ⟨v, h1, h2⟩ := k.slot i d h; ⟨v, h1, h2.mono l⟩⟩
/-- the ground of a body: entry, wish about exceptions, room -/
structure Gm (X : Cx) (τ : Tx) (k : Nat) (Ξ : DX → Δ → O → Prop) where
  H0 : Hp
  o0 : O
  W : WX
  tk : Takes X W
  po : PassesOwn (model X.prog X.w) X.A X.env X.xe
  hW : ∀ cls d σ H x δ o, Okk X.K τ H0 o0 σ H δ o → RX X.K τ H o cls d x → Ξ x δ o → W cls d σ H
  room : Room k X.A
  nd : X.N.Nodup
structure DE where
  nx : Δ → O → Prop
  rt : D → O → Prop
  bk : Δ → O → Prop := fun _ _ => False
  ct : Δ → O → Prop := fun _ _ => False
section
variable {X : Cx} {τ : Tx} {k : Nat} {Ξ : DX → Δ → O → Prop}
def PostE (K : PySem.W.Frag) (τ : Tx) (H : Hp) (o : O) (Φ : D → O → Prop) : VK := fun v H' => ∃ d o', Own K τ H' o' ∧ Le H o H' o' ∧ R K τ H' o' v d ∧ Φ d o'
def PostT (K : PySem.W.Frag) (τ : Tx) (H : Hp) (o : O) (Φ : Bool → O → Prop) : Bool → Hp → Prop := fun b H' => ∃ o', Own K τ H' o' ∧ Le H o H' o' ∧ Φ b o'
def PostA (K : PySem.W.Frag) (τ : Tx) (H : Hp) (o : O) (Φ : List D → O → Prop) : List V → Hp → Prop := fun v H' => ∃ d o', Own K τ H' o' ∧ Le H o H' o' ∧ Rs K τ H' o' v d ∧ Φ d o'
def toE (K : PySem.W.Frag) (τ : Tx) (H0 : Hp) (o0 : O) (H : Hp) (o : O) (D' : DE) : Ends where
  nx := fun σ H' => ∃ δ o', Okk K τ H0 o0 σ H' δ o' ∧ Le H o H' o' ∧ D'.nx δ o'
  rt := fun v H' => ∃ d o', Le H0 o0 H' o' ∧ Own K τ H' o' ∧ R K τ H' o' v d ∧ D'.rt d o'
  bk := fun σ H' => ∃ δ o', Okk K τ H0 o0 σ H' δ o' ∧ Le H o H' o' ∧ D'.bk δ o'
  ct := fun σ H' => ∃ δ o', Okk K τ H0 o0 σ H' δ o' ∧ Le H o H' o' ∧ D'.ct δ o'
/-- e gives a datum that Φ takes -/
def WE (Γ : Gm X τ k Ξ) (e : Expr) (δ : Δ) (o : O) (Φ : D → O → Prop) : Prop := ∀ σ H, Okk X.K τ Γ.H0 Γ.o0 σ H δ o → cE X e σ H (PostE X.K τ H o Φ)
def WT (Γ : Gm X τ k Ξ) (e : Expr) (δ : Δ) (o : O) (Φ : Bool → O → Prop) : Prop := ∀ σ H, Okk X.K τ Γ.H0 Γ.o0 σ H δ o → cT X e σ H (PostT X.K τ H o Φ)
def WW (Γ : Gm X τ k Ξ) (e : Expr) (δ : Δ) (o : O) (Φ : Bool → O → Prop) : Prop := ∀ σ H, Okk X.K τ Γ.H0 Γ.o0 σ H δ o → cW X e σ H (PostT X.K τ H o Φ)
def WA (Γ : Gm X τ k Ξ) (es : List Expr) (δ : Δ) (o : O) (Φ : List D → O → Prop) : Prop := ∀ σ H, Okk X.K τ Γ.H0 Γ.o0 σ H δ o → cA X es σ H (PostA X.K τ H o Φ)
def WS (Γ : Gm X τ k Ξ) (st : Stmt) (δ : Δ) (o : O) (E : DE) : Prop := ∀ σ H, Okk X.K τ Γ.H0 Γ.o0 σ H δ o → cS X st (toE X.K τ Γ.H0 Γ.o0 H o E) σ H
def WSs (Γ : Gm X τ k Ξ) (st : List Stmt) (δ : Δ) (o : O) (E : DE) : Prop := ∀ σ H, Okk X.K τ Γ.H0 Γ.o0 σ H δ o → cSs X st (toE X.K τ Γ.H0 Γ.o0 H o E) σ H
/-- a target is given the datum d -/
def WG (Γ : Gm X τ k Ξ) (tg : Expr) (d : D) (δ : Δ) (o : O) (Ψ : Δ → O → Prop) : Prop := ∀ σ H v, Okk X.K τ Γ.H0 Γ.o0 σ H δ o → R X.K τ H o v d →
  cG X tg v σ H fun σ' H' => ∃ δ' o', Okk X.K τ Γ.H0 Γ.o0 σ' H' δ' o' ∧ Le H o H' o' ∧ Ψ δ' o'
def WGs (Γ : Gm X τ k Ξ) (tgs : List Expr) (ds : List D) (δ : Δ) (o : O) (Ψ : Δ → O → Prop) : Prop := ∀ σ H vs, Okk X.K τ Γ.H0 Γ.o0 σ H δ o → Rs X.K τ H o vs ds →
  cGs X tgs vs σ H fun σ' H' => ∃ δ' o', Okk X.K τ Γ.H0 Γ.o0 σ' H' δ' o' ∧ Le H o H' o' ∧ Ψ δ' o'
variable {Γ : Gm X τ k Ξ} {e : Expr} {es : List Expr} {δ : Δ} {o : O}
theorem PostE.le {H H1 : Hp} {o o1 : O} {Φ : D → O → Prop} {v : V} {H' : Hp} (l : Le H o H1 o1) (h : PostE X.K τ H1 o1 Φ v H') : PostE X.K τ H o Φ v H' :=
  let ⟨d, o', w, l', r, q⟩ := h; ⟨d, o', w, l.trans l', r, q⟩
theorem PostT.le {H H1 : Hp} {o o1 : O} {Φ : Bool → O → Prop} {v : Bool} {H' : Hp} (l : Le H o H1 o1) (h : PostT X.K τ H1 o1 Φ v H') : PostT X.K τ H o Φ v H' :=
  let ⟨o', w, l', q⟩ := h; ⟨o', w, l.trans l', q⟩
theorem PostA.le {H H1 : Hp} {o o1 : O} {Φ : List D → O → Prop} {v : List V} {H' : Hp} (l : Le H o H1 o1) (h : PostA X.K τ H1 o1 Φ v H') : PostA X.K τ H o Φ v H' :=
  let ⟨d, o', w, l', r, q⟩ := h; ⟨d, o', w, l.trans l', r, q⟩
/-- the end of an expression at a state that is known -/
theorem PostE.here {H : Hp} {o : O} {Φ : D → O → Prop} {v : V} {d : D} (w : Own X.K τ H o) (r : R X.K τ H o v d) (q : Φ d o) : PostE X.K τ H o Φ v H := ⟨d, o, w, Le.refl, r, q⟩
theorem WE.mono {Φ Φ' : D → O → Prop} (h : WE Γ e δ o Φ) (k : ∀ d o', Φ d o' → Φ' d o') : WE Γ e δ o Φ' := fun σ H ok => cE_mono (h σ H ok) fun _ _ ⟨d, o', w, l, r, q⟩ => ⟨d, o', w, l, r, k _ _ q⟩

/-! ### names, constants -/
theorem we_var (i : Nat) {x : Str} {pos : Pos} {d : D} {Φ : D → O → Prop} (hd : δ[i]? = some (some d)) (h : Φ d o) (hN : X.N[i]? = some x := by rfl)
    (hv : Vis X.env.scope x := by first | exact Or.inl rfl | exact Or.inr (Or.inl rfl) | exact Or.inr (Or.inr rfl)) (h1 : (x == ("__debug__" : Str)) = false := by decide) (h2 : (x == ("__classdict__" : Str)) = false := by decide) :
    WE Γ (.Name x pos) δ o Φ := fun σ H ok => by
  obtain ⟨v, e1, r⟩ := ok.slot i d hd
  exact cE_of (pe_var hN hv h1 h2) ⟨v, e1, .here ok.own r h⟩
theorem we_int {i : Int} {j pos} {Φ : D → O → Prop} (h : Φ (.int i) o) : WE Γ (.Constant (.int i) j pos) δ o Φ := fun σ H ok => cE_of pe_int (.here ok.own (.int i) h)
theorem we_bl {b : Bool} {j pos} {Φ : D → O → Prop} (h : Φ (.bl b) o) : WE Γ (.Constant (.bool b) j pos) δ o Φ := fun σ H ok => cE_of pe_bl (.here ok.own (.bl b) h)
theorem we_non {j pos} {Φ : D → O → Prop} (h : Φ .non o) : WE Γ (.Constant .none j pos) δ o Φ := fun σ H ok => cE_of pe_non (.here ok.own .non h)
theorem we_str {x : Str} {j pos} {Φ : D → O → Prop} (h : Φ (.str x) o) : WE Γ (.Constant (.str x) j pos) δ o Φ := fun σ H ok => cE_of pe_str (.here ok.own (.str x) h)
theorem we_globI {x : Str} {i : Int} {t : Tok} {pos : Pos} {Φ : D → O → Prop} (hm : X.mg x = some (.int i t)) (h : Φ (.int i) o) (hg : Gl X x := by rfl) (hd : (x == ("__debug__" : Str)) = false := by decide) : WE Γ (.Name x pos) δ o Φ :=
  fun σ H ok => cE_of (pe_glob (v := .int i) hg hm ⟨_, rfl⟩ hd) (.here ok.own (.int i) h)
theorem we_globS {x : Str} {i : Str} {t : Tok} {pos : Pos} {Φ : D → O → Prop} (hm : X.mg x = some (.str i t)) (h : Φ (.str i) o) (hg : Gl X x := by rfl) (hd : (x == ("__debug__" : Str)) = false := by decide) : WE Γ (.Name x pos) δ o Φ :=
  fun σ H ok => cE_of (pe_glob (v := .str i) hg hm ⟨_, rfl⟩ hd) (.here ok.own (.str i) h)
theorem we_globR {x : Str} {a : Addr} {pos : Pos} {Φ : D → O → Prop} (hm : X.mg x = some (.ref a)) (h : Φ (.ref a) o) (hg : Gl X x := by rfl) (hd : (x == ("__debug__" : Str)) = false := by decide) : WE Γ (.Name x pos) δ o Φ :=
  fun σ H ok => cE_of (pe_glob (v := .ref a) hg hm rfl hd) (.here ok.own (.ref a) h)

/-! ### operators by values -/
/-- what an operator on two data does: a rule of values meets it -/
def Op2 (X : Cx) (τ : Tx) (r : R2) (S : D → D → O → (D → O → Prop) → Prop) : Prop :=
  ∀ H o x y d1 d2 Φ (Q : VK), R X.K τ H o x d1 → R X.K τ H o y d2 → Own X.K τ H o → S d1 d2 o Φ → (∀ v H', PostE X.K τ H o Φ v H' → Q v H') → r x y H Q
variable {a b c : Expr} {pos : Pos} {Φ : D → O → Prop} {S : D → D → O → (D → O → Prop) → Prop} {r : R2}
theorem op_lift (hs : Op2 X τ r S) (h : WE Γ a δ o fun d1 o1 => WE Γ b δ o1 fun d2 o2 => S d1 d2 o2 Φ) (σ : L2.St) (H : Hp) (ok : Okk X.K τ Γ.H0 Γ.o0 σ H δ o) :
    tOp r (cE X a) (cE X b) σ H (PostE X.K τ H o Φ) := by
  refine cE_mono (h σ H ok) fun x H1 ⟨d1, o1, w1, l1, r1, h1⟩ => ?_
  refine cE_mono (h1 σ H1 (ok.step l1 w1)) fun y H2 ⟨d2, o2, w2, l2, r2, h2⟩ => ?_
  exact hs H2 o2 x y d1 d2 Φ _ (r1.mono l2) r2 w2 h2 fun v H' p => p.le (l1.trans l2)
theorem we_bin {op : Operator} (ho : OpR X (binaryOp op) r) (hs : Op2 X τ r S) (h : WE Γ a δ o fun d1 o1 => WE Γ b δ o1 fun d2 o2 => S d1 d2 o2 Φ) : WE Γ (.BinOp a op b pos) δ o Φ :=
  fun σ H ok => cE_of (pe_op ho pe_c pe_c) (op_lift hs h σ H ok)
theorem we_cmpR {op : CmpOp} (ho : OpR X (compareOp op) r) (hs : Op2 X τ r S) (hm : behindInMarks op b = false) (h : WE Γ a δ o fun d1 o1 => WE Γ b δ o1 fun d2 o2 => S d1 d2 o2 Φ) : WE Γ (.Compare a [op] [b] pos) δ o Φ :=
  fun σ H ok => cE_of (pe_cmpR ho pe_c pe_c hm) (op_lift hs h σ H ok)
theorem we_ixR (hr : IxR X r) (hs : Op2 X τ r S) (hx : PlainIx b) (h : WE Γ a δ o fun d1 o1 => WE Γ b δ o1 fun d2 o2 => S d1 d2 o2 Φ) : WE Γ (.Subscript a b pos) δ o Φ :=
  fun σ H ok => cE_of (pe_ix hr pe_c pe_c hx) (op_lift hs h σ H ok)
/-- one operand -/
def Op1 (X : Cx) (τ : Tx) (r : V → Hp → VK → Prop) (S : D → O → (D → O → Prop) → Prop) : Prop :=
  ∀ H o x d1 Φ (Q : VK), R X.K τ H o x d1 → Own X.K τ H o → S d1 o Φ → (∀ v H', PostE X.K τ H o Φ v H' → Q v H') → r x H Q
theorem we_unR {op : UnaryOp} {r : V → Hp → VK → Prop} {S : D → O → (D → O → Prop) → Prop} (ho : UnR X (unaryOp op) r) (hs : Op1 X τ r S) (h : WE Γ a δ o fun d1 o1 => S d1 o1 Φ) : WE Γ (.UnaryOp op a pos) δ o Φ :=
  fun σ H ok => cE_of (pe_un ho pe_c) (cE_mono (h σ H ok) fun x H1 ⟨d1, o1, w1, l1, r1, h1⟩ => hs H1 o1 x d1 Φ _ r1 w1 h1 fun v H' p => p.le l1)
/-! the ints that data are -/
theorem R.int_ {K : PySem.W.Frag} {H : Hp} {o : O} {v : V} {i : Int} (r : R K τ H o v (.int i)) : v = .int i := by cases r; rfl
theorem R.bl_ {K : PySem.W.Frag} {H : Hp} {o : O} {v : V} {i : Bool} (r : R K τ H o v (.bl i)) : v = .bl i := by cases r; rfl
theorem R.str_ {K : PySem.W.Frag} {H : Hp} {o : O} {v : V} {i : Str} (r : R K τ H o v (.str i)) : v = .str i := by cases r; rfl
theorem R.non_ {K : PySem.W.Frag} {H : Hp} {o : O} {v : V} (r : R K τ H o v .non) : v = .non := by cases r; rfl
theorem R.ref_ {K : PySem.W.Frag} {H : Hp} {o : O} {v : V} {a : Addr} (r : R K τ H o v (.ref a)) : v = .ref a := by cases r; rfl
theorem Rs.length {K : PySem.W.Frag} {H : Hp} {o : O} : ∀ {vs : List V} {ds : List D}, Rs K τ H o vs ds → vs.length = ds.length
  | _, _, .nil => rfl
  | _, _, .cons _ r => congrArg (· + 1) r.length
theorem Rs.get {K : PySem.W.Frag} {H : Hp} {o : O} : ∀ {vs : List V} {ds : List D} {i : Nat} {d : D}, Rs K τ H o vs ds → ds[i]? = some d → ∃ v, vs[i]? = some v ∧ R K τ H o v d
  | _, _, _, _, .nil, h => by simp at h
  | _, _, 0, d, .cons h _, e => by simp at e; subst e; exact ⟨_, rfl, h⟩
  | _, _, i + 1, d, .cons _ r, e => by
    obtain ⟨v, h1, h2⟩ := Rs.get (i := i) (d := d) r (by simpa using e)
    exact ⟨v, by simpa using h1, h2⟩
theorem Rs.of_get {K : PySem.W.Frag} {H : Hp} {o : O} : ∀ {vs : List V} {ds : List D} {i : Nat} {v : V}, Rs K τ H o vs ds → vs[i]? = some v → ∃ d, ds[i]? = some d ∧ R K τ H o v d
  | _, _, _, _, .nil, h => by simp at h
  | _, _, 0, d, .cons h _, e => by simp at e; subst e; exact ⟨_, rfl, h⟩
  | _, _, i + 1, d, .cons _ r, e => by
    obtain ⟨v, h1, h2⟩ := Rs.of_get (i := i) (v := d) r (by simpa using e)
    exact ⟨v, by simpa using h1, h2⟩
theorem Rs.append {K : PySem.W.Frag} {H : Hp} {o : O} {vs ws : List V} {ds es : List D} (a : Rs K τ H o vs ds) (b : Rs K τ H o ws es) : Rs K τ H o (vs ++ ws) (ds ++ es) := by
  induction vs generalizing ds with
  | nil => cases a; exact b
  | cons v vs ih => cases a with | cons h r => exact .cons h (ih r)

/-! ### arithmetic -/
def addS : D → D → O → (D → O → Prop) → Prop
  | .int i, .int j, o, Φ => Φ (.int (i + j)) o
  | .str x, .str y, o, Φ => x.length + y.length ≤ sizeLine ∧ Φ (.str (x ++ y)) o
  | .lst xs, .lst ys, o, Φ => xs.length + ys.length ≤ sizeLine ∧ Φ (.lst (xs ++ ys)) o
  | .tup xs, .tup ys, o, Φ => xs.length + ys.length ≤ sizeLine ∧ Φ (.tup (xs ++ ys)) o
  | _, _, _, _ => False
def subS : D → D → O → (D → O → Prop) → Prop
  | .int i, .int j, o, Φ => Φ (.int (i - j)) o
  | _, _, _, _ => False
def mulS : D → D → O → (D → O → Prop) → Prop
  | .int i, .int j, o, Φ => IntMulOk i j ∧ Φ (.int (i * j)) o
  | .lst xs, .int k, o, Φ => -(2 ^ 63) ≤ k ∧ k < 2 ^ 63 ∧ xs.length * k.toNat ≤ sizeLine ∧ Φ (.lst (List.replicate k.toNat xs).flatten) o
  | _, _, _, _ => False
def fdivS : D → D → O → (D → O → Prop) → Prop
  | .int i, .int j, o, Φ => CDivW i j ∧ Φ (.int (i / j)) o
  | _, _, _, _ => False
def modS : D → D → O → (D → O → Prop) → Prop
  | .int i, .int j, o, Φ => 0 < j ∧ Φ (.int (i % j)) o
  | _, _, _, _ => False
def powS : D → D → O → (D → O → Prop) → Prop
  | .int i, .int j, o, Φ => CPow i j ∧ Φ (.int (i ^ j.toNat)) o
  | _, _, _, _ => False
theorem op2I0 {f : Int → Int → Int} {S : D → D → O → (D → O → Prop) → Prop} (hS : ∀ d1 d2 o Φ, S d1 d2 o Φ → ∃ i j, d1 = .int i ∧ d2 = .int j ∧ Φ (.int (f i j)) o) : Op2 X τ (rI0 fun i j => .int (f i j)) S := by
  intro H o x y d1 d2 Φ Q r1 r2 w s k
  obtain ⟨i, j, rfl, rfl, q⟩ := hS d1 d2 o Φ s
  exact ⟨i, j, r1.int_, r2.int_, k _ _ (.here w (.int _) q)⟩
theorem op2I {C : Int → Int → Prop} {f : Int → Int → Int} {S : D → D → O → (D → O → Prop) → Prop} (hS : ∀ d1 d2 o Φ, S d1 d2 o Φ → ∃ i j, d1 = .int i ∧ d2 = .int j ∧ C i j ∧ Φ (.int (f i j)) o) : Op2 X τ (rI C fun i j => .int (f i j)) S := by
  intro H o x y d1 d2 Φ Q r1 r2 w s k
  obtain ⟨i, j, rfl, rfl, c, q⟩ := hS d1 d2 o Φ s
  exact ⟨i, j, r1.int_, r2.int_, c, k _ _ (.here w (.int _) q)⟩
theorem Op2.or {r r' : R2} {S : D → D → O → (D → O → Prop) → Prop} (h : ∀ H o x y d1 d2 Φ (Q : VK), R X.K τ H o x d1 → R X.K τ H o y d2 → Own X.K τ H o → S d1 d2 o Φ → (∀ v H', PostE X.K τ H o Φ v H' → Q v H') → r x y H Q ∨ r' x y H Q) : Op2 X τ (fun x y H Q => r x y H Q ∨ r' x y H Q) S := h
theorem newE {H : Hp} {o : O} {p : Addr} {u : HO} {d : D} {Φ : D → O → Prop} (w : Own X.K τ H o) (hp : H p = none) (r : R X.K τ (upd H p u) o (.ref p) d) (q : Φ d o) : PostE X.K τ H o Φ (.ref p) (upd H p u) :=
  ⟨d, o, fun a x e => by
    have hw := w a x e
    have l : Le H o (upd H p u) o := Le.new hp
    have ne : ∀ {z : HO}, H a = some z → a ≠ p := fun z => ne_of_none z hp
    cases x with
    | lst ds => obtain ⟨vs, h1, h2⟩ := hw; exact ⟨vs, by rw [upd_ne (ne h1)]; exact h1, h2.mono l⟩
    | ins C fs => obtain ⟨dx, gs, h1, h2⟩ := hw; exact ⟨dx, gs, by rw [upd_ne (ne h1)]; exact h1, h2.mono l⟩
    | dct kvs => obtain ⟨gs, h1, h2⟩ := hw; exact ⟨gs, by rw [upd_ne (ne h1)]; exact h1, h2.mono l⟩, Le.new hp, r, q⟩
theorem Own.free {K : PySem.W.Frag} {H : Hp} {o : O} {p : Addr} (w : Own K τ H o) (hp : H p = none) : o p = none := by
  cases e : o p with
  | none => rfl
  | some x =>
    have hw := w p x e
    cases x with
    | lst ds => obtain ⟨vs, h1, _⟩ := hw; rw [hp] at h1; cases h1
    | ins C fs => obtain ⟨dx, gs, h1, _⟩ := hw; rw [hp] at h1; cases h1
    | dct kvs => obtain ⟨gs, h1, _⟩ := hw; rw [hp] at h1; cases h1
theorem newL {H : Hp} {o : O} {p : Addr} {vs : List V} {ds : List D} {Φ : D → O → Prop} (w : Own X.K τ H o) (hp : H p = none) (r : Rs X.K τ H o vs ds) (q : Φ (.lst ds) o) : PostE X.K τ H o Φ (.ref p) (upd H p (.lst vs)) :=
  newE w hp (.lst upd_same (w.free hp) (r.mono (Le.new hp))) q
theorem newT {H : Hp} {o : O} {p : Addr} {vs : List V} {ds : List D} {Φ : D → O → Prop} (w : Own X.K τ H o) (hp : H p = none) (r : Rs X.K τ H o vs ds) (q : Φ (.tup ds) o) : PostE X.K τ H o Φ (.ref p) (upd H p (.tup vs)) :=
  newE w hp (.tup (.inl ⟨.inl upd_same, w.free hp⟩) (r.mono (Le.new hp))) q
abbrev rStr2 : R2 := fun x y H Q => ∃ i j, x = V.str i ∧ y = .str j ∧ i.length + j.length ≤ sizeLine ∧ Q (.str (i ++ j)) H
abbrev rAddA (K : PySem.W.Frag) : R2 := fun x y H Q => (rI0 (fun i j => .int (i + j))) x y H Q ∨ (rStr2 x y H Q ∨ (rCat x y H Q ∨ rCatA K x y H Q))
theorem op_addA : OpR X (binaryOp .Add) (rAddA X.K) := OpR.or op_add (OpR.or op_add_str (OpR.or op_cat op_catA))
theorem op2_add : Op2 X τ (rAddA X.K) addS := by
  intro H o x y d1 d2 Φ Q r1 r2 w s k
  cases r1 <;> cases r2 <;> try (exact False.elim s)
  · exact .inl ⟨_, _, rfl, rfl, k _ _ (.here w (.int _) s)⟩
  · exact .inr (.inl ⟨_, _, rfl, rfl, s.1, k _ _ (.here w (.str _) s.2)⟩)
  · rename_i h1 q1 _ _ _ h2 q2
    refine .inr (.inr (.inr ⟨_, _, _, _, rfl, rfl, h1.to, h2.to, by rw [q1.length, q2.length]; exact s.1, fun e => ?_, fun _ e => ?_, fun _ _ p hp => k _ _ (newT w hp (q1.append q2) s.2)⟩))
    · subst e; cases q1; exact k _ _ (.here w (.tup h2 q2) s.2)
    · subst e; cases q2; exact k _ _ (.here w (.tup h1 q1) (by have := s.2; rw [List.append_nil] at this; exact this))
  · rename_i h1 n1 q1 _ _ _ h2 n2 q2
    exact .inr (.inr (.inl ⟨_, _, _, _, rfl, rfl, h1, h2, by rw [q1.length, q2.length]; exact s.1, fun p hp => k _ _ (newL w hp (q1.append q2) s.2)⟩))
end
end DL

set_option Elab.async false
set_option linter.all false
set_option maxRecDepth 100000
set_option maxHeartbeats 2000000
/-! DL3: operators, tests, displays, calls, statements over data. -/
namespace DL
open PySem PySem.Spec PyProof.Rows L2
section
variable {X : Cx} {τ : Tx} {k : Nat} {Ξ : DX → Δ → O → Prop} {Γ : Gm X τ k Ξ} {e a b c : Expr} {es : List Expr} {δ : Δ} {o : O} {pos : Pos} {Φ : D → O → Prop} {S : D → D → O → (D → O → Prop) → Prop} {r : R2}

/-! ### arithmetic, by kinds -/
theorem we_add (h : WE Γ a δ o fun d1 o1 => WE Γ b δ o1 fun d2 o2 => addS d1 d2 o2 Φ) : WE Γ (.BinOp a .Add b pos) δ o Φ := we_bin op_addA op2_add h
theorem op2_sub : Op2 X τ (rI0 fun i j => .int (i - j)) subS := op2I0 fun d1 d2 o Φ s => by
  cases d1 <;> cases d2 <;> first | exact False.elim s | exact ⟨_, _, rfl, rfl, s⟩
theorem we_sub (h : WE Γ a δ o fun d1 o1 => WE Γ b δ o1 fun d2 o2 => subS d1 d2 o2 Φ) : WE Γ (.BinOp a .Sub b pos) δ o Φ := we_bin op_sub op2_sub h
theorem op_mulG : OpR X (binaryOp .Mult) (rI IntMulOk fun i j => .int (i * j)) := opI fun _ _ _ _ _ _ _ hc q => mul_int q hc
abbrev rMulA : R2 := fun x y H Q => (rI IntMulOk (fun i j => .int (i * j))) x y H Q ∨ rRep x y H Q
theorem flat_rep {α : Type} (xs : List α) (n : Nat) : ((List.replicate n xs).flatten).length = xs.length * n := by
  induction n with
  | zero => simp
  | succ n ih => rw [List.replicate_succ, List.flatten_cons, List.length_append, ih, Nat.mul_succ]; omega
theorem Rs.rep {K : PySem.W.Frag} {H : Hp} {o : O} {vs : List V} {ds : List D} (r : Rs K τ H o vs ds) : ∀ n : Nat, Rs K τ H o (List.replicate n vs).flatten (List.replicate n ds).flatten
  | 0 => .nil
  | n + 1 => by
    rw [List.replicate_succ, List.replicate_succ, List.flatten_cons, List.flatten_cons]
    exact r.append (Rs.rep r n)
theorem op2_mul : Op2 X τ rMulA mulS := by
  intro H o x y d1 d2 Φ Q r1 r2 w s k
  cases r1 <;> cases r2 <;> try (exact False.elim s)
  · exact .inl ⟨_, _, rfl, rfl, s.1, k _ _ (.here w (.int _) s.2)⟩
  · rename_i h n q i
    obtain ⟨s1, s2, s3, s4⟩ := s
    exact .inr ⟨_, _, _, rfl, rfl, h, s1, s2, by rw [q.length]; exact s3, fun p hp => k _ _ (newL w hp (q.rep _) s4)⟩
theorem we_mul (h : WE Γ a δ o fun d1 o1 => WE Γ b δ o1 fun d2 o2 => mulS d1 d2 o2 Φ) : WE Γ (.BinOp a .Mult b pos) δ o Φ := we_bin (OpR.or op_mulG op_rep) op2_mul h
theorem op2_fdiv : Op2 X τ (rI CDivW fun i j => .int (i / j)) fdivS := op2I fun d1 d2 o Φ s => by
  cases d1 <;> cases d2 <;> first | exact False.elim s | exact ⟨_, _, rfl, rfl, s.1, s.2⟩
theorem we_fdiv (h : WE Γ a δ o fun d1 o1 => WE Γ b δ o1 fun d2 o2 => fdivS d1 d2 o2 Φ) : WE Γ (.BinOp a .FloorDiv b pos) δ o Φ := we_bin op_fdivW op2_fdiv h
theorem op2_mod : Op2 X τ (rI (fun _ j => 0 < j) fun i j => .int (i % j)) modS := op2I fun d1 d2 o Φ s => by
  cases d1 <;> cases d2 <;> first | exact False.elim s | exact ⟨_, _, rfl, rfl, s.1, s.2⟩
theorem we_mod (h : WE Γ a δ o fun d1 o1 => WE Γ b δ o1 fun d2 o2 => modS d1 d2 o2 Φ) : WE Γ (.BinOp a .Mod b pos) δ o Φ := we_bin op_mod op2_mod h
theorem op2_pow : Op2 X τ (rI CPow fun i j => .int (i ^ j.toNat)) powS := op2I fun d1 d2 o Φ s => by
  cases d1 <;> cases d2 <;> first | exact False.elim s | exact ⟨_, _, rfl, rfl, s.1, s.2⟩
theorem we_pow (h : WE Γ a δ o fun d1 o1 => WE Γ b δ o1 fun d2 o2 => powS d1 d2 o2 Φ) : WE Γ (.BinOp a .Pow b pos) δ o Φ := we_bin op_pow op2_pow h
theorem addS_i {i j : Int} (h : Φ (.int (i + j)) o) : addS (.int i) (.int j) o Φ := h
theorem addS_s {x y : Str} (hl : x.length + y.length ≤ sizeLine) (h : Φ (.str (x ++ y)) o) : addS (.str x) (.str y) o Φ := ⟨hl, h⟩
theorem addS_l {x y : List D} (hl : x.length + y.length ≤ sizeLine) (h : Φ (.lst (x ++ y)) o) : addS (.lst x) (.lst y) o Φ := ⟨hl, h⟩
theorem addS_t {x y : List D} (hl : x.length + y.length ≤ sizeLine) (h : Φ (.tup (x ++ y)) o) : addS (.tup x) (.tup y) o Φ := ⟨hl, h⟩
theorem subS_i {i j : Int} (h : Φ (.int (i - j)) o) : subS (.int i) (.int j) o Φ := h
theorem mulS_i {i j : Int} (hc : IntMulOk i j) (h : Φ (.int (i * j)) o) : mulS (.int i) (.int j) o Φ := ⟨hc, h⟩
theorem fdivS_i {i j : Int} (hc : CDivW i j) (h : Φ (.int (i / j)) o) : fdivS (.int i) (.int j) o Φ := ⟨hc, h⟩
theorem modS_i {i j : Int} (hc : 0 < j) (h : Φ (.int (i % j)) o) : modS (.int i) (.int j) o Φ := ⟨hc, h⟩
theorem powS_9 (h : Φ (.int 1000000000) o) : powS (.int 10) (.int 9) o Φ := ⟨⟨by decide, by decide, by decide⟩, h⟩
theorem powS_18 (h : Φ (.int 1000000000000000000) o) : powS (.int 10) (.int 18) o Φ := ⟨⟨by decide, by decide, by decide⟩, h⟩
theorem powS_17 (h : Φ (.int 100000000000000000) o) : powS (.int 10) (.int 17) o Φ := ⟨⟨by decide, by decide, by decide⟩, h⟩
theorem powS_16 (h : Φ (.int 10000000000000000) o) : powS (.int 10) (.int 16) o Φ := ⟨⟨by decide, by decide, by decide⟩, h⟩
theorem powS_6 (h : Φ (.int 1000000) o) : powS (.int 10) (.int 6) o Φ := ⟨⟨by decide, by decide, by decide⟩, h⟩
theorem powS_5 (h : Φ (.int 100000) o) : powS (.int 10) (.int 5) o Φ := ⟨⟨by decide, by decide, by decide⟩, h⟩
/-- -n -/
def negS : D → O → (D → O → Prop) → Prop
  | .int i, o, Φ => Φ (.int (-i)) o
  | _, _, _ => False
theorem we_neg (h : WE Γ a δ o fun d1 o1 => negS d1 o1 Φ) : WE Γ (.UnaryOp .USub a pos) δ o Φ := we_unR un_neg (fun H o x d1 Φ Q r w s k => by
  cases r <;> first | exact False.elim s | exact ⟨_, rfl, k _ _ (.here w (.int _) s)⟩) h
theorem negS_i {i : Int} (h : Φ (.int (-i)) o) : negS (.int i) o Φ := h

theorem mul_l {i j : Int} (h1 : -18446744073709551616 < i) (h2 : i < 18446744073709551616) : IntMulOk i j := CMul.ok (.inl ⟨h1, h2⟩)
theorem mul_r {i j : Int} (h1 : -18446744073709551616 < j) (h2 : j < 18446744073709551616) : IntMulOk i j := CMul.ok (.inr ⟨h1, h2⟩)
theorem mul_w {i j : Int} (h1 : i.natAbs < 2 ^ 400) (h2 : j.natAbs < 2 ^ 400) : IntMulOk i j := CMulW.ok (wide_mul h1 h2 (by decide) (by decide) (by decide))
theorem div_s {i j : Int} (h1 : 0 < j) (h2 : j < 18446744073709551616) : CDivW i j := wide_div (b := 64) h1 (by omega) (by decide) (by decide)
/-! ### comparisons -/
/-- a op b, compared, gives a datum that Φ takes -/
def WC (Γ : Gm X τ k Ξ) (op : CmpOp) (a b : Expr) (δ : Δ) (o : O) (Φ : D → O → Prop) : Prop := ∀ σ H, Okk X.K τ Γ.H0 Γ.o0 σ H δ o → ∀ pins s, Inv X pins σ H s →
  wpAny (model X.prog X.w) X.A (eval a X.env) (fun v s₁ => wpAny (model X.prog X.w) X.A (eval b X.env) (fun u s₂ => wpAny (model X.prog X.w) X.A (compareOp op v u) (EP X pins σ (PostE X.K τ H o Φ)) X.xe s₂) X.xe s₁) X.xe s
theorem pc_w {op : CmpOp} {σ : L2.St} {H : Hp} {Q : VK} : PC X op a b fun σ' H' Q' => σ' = σ ∧ H' = H ∧ (∀ v H'', Q v H'' → Q' v H'') ∧ ∀ pins s, Inv X pins σ H s →
  wpAny (model X.prog X.w) X.A (eval a X.env) (fun v s₁ => wpAny (model X.prog X.w) X.A (eval b X.env) (fun u s₂ => wpAny (model X.prog X.w) X.A (compareOp op v u) (EP X pins σ Q) X.xe s₂) X.xe s₁) X.xe s :=
  ⟨fun pins s σ' H' Q' I ⟨e1, e2, k, h⟩ => by
    subst e1 e2
    exact thn (h pins s I) fun v s1 z => thn z fun u s2 z => thn z fun r s3 z => EP.imp z k⟩
theorem we_c {op : CmpOp} {Φ : D → O → Prop} (h : WC Γ op a b δ o Φ) (h1 : behindInMarks op b = false := by first | exact nobehind _ (by decide) (by decide) | rfl) : WE Γ (.Compare a [op] [b] pos) δ o Φ := fun σ H ok =>
  cE_of (pe_cmp (pc_w (σ := σ) (H := H) (Q := PostE X.K τ H o Φ)) h1) ⟨rfl, rfl, fun _ _ q => q, h σ H ok⟩
theorem wt_c {op : CmpOp} {Ψ : Bool → O → Prop} (h : WC Γ op a b δ o fun d o' => ∃ y, d = .bl y ∧ Ψ y o') (h1 : behindInMarks op b = false := by first | exact nobehind _ (by decide) (by decide) | rfl) : WT Γ (.Compare a [op] [b] pos) δ o Ψ := fun σ H ok =>
  cT_of (pt_cmp (pc_w (σ := σ) (H := H) (Q := PostE X.K τ H o fun d o' => ∃ y, d = .bl y ∧ Ψ y o')) h1) ⟨rfl, rfl, fun v H' ⟨d, o', w, l, r, y, e, q⟩ => by subst e; cases r; exact ⟨y, rfl, o', w, l, q⟩, h σ H ok⟩
theorem wc_R {op : CmpOp} (ho : OpR X (compareOp op) r) (hs : Op2 X τ r S) (h : WE Γ a δ o fun d1 o1 => WE Γ b δ o1 fun d2 o2 => S d1 d2 o2 Φ) : WC Γ op a b δ o Φ := fun σ H ok pins s I => by
  refine thn (h σ H ok pins s I) fun u s1 ⟨v, H1, I1, rv, d1, o1, w1, l1, r1, h1⟩ => ?_
  have ok1 := ok.step l1 w1
  refine thn (h1 σ H1 ok1 pins s1 I1) fun u2 s2 ⟨v2, H2, I2, rv2, d2, o2, w2, l2, r2, q⟩ => ?_
  exact ho pins s2 σ H2 v v2 u u2 _ I2 rv rv2 (hs H2 o2 v v2 d1 d2 Φ _ (r1.mono l2) r2 w2 q fun v H' p => p.le (l1.trans l2))
mutual
/-- data that == tells apart by value -/
def py : D → PyData
  | .bl b => .bool b
  | .int i => .int i
  | .str x => .str x
  | .tup ds => .tuple (pys ds)
  | .lst ds => .list (pys ds)
  | _ => .none
def pys : List D → List PyData
  | [] => []
  | d :: ds => py d :: pys ds
end
mutual
def isPy : D → Bool
  | .non => true
  | .bl _ => true
  | .int _ => true
  | .str _ => true
  | .tup ds => isPys ds
  | .lst ds => isPys ds
  | _ => false
def isPys : List D → Bool
  | [] => true
  | d :: ds => isPy d && isPys ds
end
mutual
theorem R.dp {K : PySem.W.Frag} {H : Hp} {o : O} : ∀ {v : V} {d : D}, R K τ H o v d → isPy d = true → Dp K H v (py d)
  | _, _, .non, _ => by rw [py.eq_def]; exact .non
  | _, _, .bl b, _ => by rw [py.eq_def]; exact .bl b
  | _, _, .int i, _ => by rw [py.eq_def]; exact .int i
  | _, _, .str x, _ => by rw [py.eq_def]; exact .str x
  | _, _, .tup h r, p => by rw [py.eq_def]; rw [isPy.eq_def] at p; exact .tup h.to (r.dp p)
  | _, _, .lst h _ r, p => by rw [py.eq_def]; rw [isPy.eq_def] at p; exact .lst (.of h) (r.dp p)
  | _, _, .byt _, p => by rw [isPy.eq_def] at p; cases p
  | _, _, .ref _, p => by rw [isPy.eq_def] at p; cases p
  | _, _, .ty _, p => by rw [isPy.eq_def] at p; cases p
  | _, _, .scr _, p => by rw [isPy.eq_def] at p; cases p
  | _, _, .dct _ _ _, p => by rw [isPy.eq_def] at p; cases p
  | _, _, .deck _ _, p => by rw [isPy.eq_def] at p; cases p
  | _, _, .tape _ _ _ _ _, p => by rw [isPy.eq_def] at p; cases p
theorem Rs.dp {K : PySem.W.Frag} {H : Hp} {o : O} : ∀ {vs : List V} {ds : List D}, Rs K τ H o vs ds → isPys ds = true → DpAll K H vs (pys ds)
  | _, _, .nil, _ => by rw [pys.eq_def]; exact .nil
  | _, _, .cons h r, p => by
    rw [isPys.eq_def] at p
    rw [pys.eq_def]
    have p' := Bool.and_eq_true_iff.mp p
    exact .cons (h.dp p'.1) (r.dp p'.2)
end
/-- == of plain data -/
def eqD (d e : D) : Bool := PyData.eqv (py d) (py e)
def okD (d : D) : Bool := isPy d && SeqAt.shaped (py d)
def eqS (d1 d2 : D) (o : O) (Φ : D → O → Prop) : Prop := okD d1 = true ∧ okD d2 = true ∧ Φ (.bl (eqD d1 d2)) o
def neS (d1 d2 : D) (o : O) (Φ : D → O → Prop) : Prop := okD d1 = true ∧ okD d2 = true ∧ Φ (.bl (!eqD d1 d2)) o
theorem op2_eq : Op2 X τ (rEqD X.K) eqS := fun H o x y d1 d2 Φ Q r1 r2 w s k =>
  ⟨py d1, py d2, r1.dp (Bool.and_eq_true_iff.mp s.1).1, r2.dp (Bool.and_eq_true_iff.mp s.2.1).1, (Bool.and_eq_true_iff.mp s.1).2, (Bool.and_eq_true_iff.mp s.2.1).2, k _ _ (.here w (.bl _) s.2.2)⟩
theorem op2_ne : Op2 X τ (rNeD X.K) neS := fun H o x y d1 d2 Φ Q r1 r2 w s k =>
  ⟨py d1, py d2, r1.dp (Bool.and_eq_true_iff.mp s.1).1, r2.dp (Bool.and_eq_true_iff.mp s.2.1).1, (Bool.and_eq_true_iff.mp s.1).2, (Bool.and_eq_true_iff.mp s.2.1).2, k _ _ (.here w (.bl _) s.2.2)⟩
theorem wc_eq (h : WE Γ a δ o fun d1 o1 => WE Γ b δ o1 fun d2 o2 => eqS d1 d2 o2 Φ) : WC Γ .Eq a b δ o Φ := wc_R (op_eqD Γ.room.units) op2_eq h
theorem wc_ne (h : WE Γ a δ o fun d1 o1 => WE Γ b δ o1 fun d2 o2 => neS d1 d2 o2 Φ) : WC Γ .NotEq a b δ o Φ := wc_R (op_neD Γ.room.units) op2_ne h
theorem eqS_i {i j : Int} (h : Φ (.bl (decide (i = j))) o) : eqS (.int i) (.int j) o Φ := ⟨rfl, rfl, h⟩
theorem neS_i {i j : Int} (h : Φ (.bl (!decide (i = j))) o) : neS (.int i) (.int j) o Φ := ⟨rfl, rfl, h⟩
def ltS (f : Int → Int → Bool) : D → D → O → (D → O → Prop) → Prop
  | .int i, .int j, o, Φ => Φ (.bl (f i j)) o
  | _, _, _, _ => False
theorem op2_lt {f : Int → Int → Bool} : Op2 X τ (rI0 fun i j => .bl (f i j)) (ltS f) := by
  intro H o x y d1 d2 Φ Q r1 r2 w s k
  cases r1 <;> cases r2 <;> try (exact False.elim s)
  exact ⟨_, _, rfl, rfl, k _ _ (.here w (.bl _) s)⟩
theorem wc_lt (h : WE Γ a δ o fun d1 o1 => WE Γ b δ o1 fun d2 o2 => ltS (fun i j => decide (i < j)) d1 d2 o2 Φ) : WC Γ .Lt a b δ o Φ := wc_R op_lt op2_lt h
theorem wc_le (h : WE Γ a δ o fun d1 o1 => WE Γ b δ o1 fun d2 o2 => ltS (fun i j => decide (i ≤ j)) d1 d2 o2 Φ) : WC Γ .LtE a b δ o Φ := wc_R op_le op2_lt h
theorem wc_gt (h : WE Γ a δ o fun d1 o1 => WE Γ b δ o1 fun d2 o2 => ltS (fun i j => decide (j < i)) d1 d2 o2 Φ) : WC Γ .Gt a b δ o Φ := wc_R op_gt op2_lt h
theorem wc_ge (h : WE Γ a δ o fun d1 o1 => WE Γ b δ o1 fun d2 o2 => ltS (fun i j => decide (j ≤ i)) d1 d2 o2 Φ) : WC Γ .GtE a b δ o Φ := wc_R op_ge op2_lt h
theorem ltS_i {f : Int → Int → Bool} {i j : Int} (h : Φ (.bl (f i j)) o) : ltS f (.int i) (.int j) o Φ := h
/-- a op b op' c, ints -/
theorem we_chain {op op' : CmpOp} {f g : Int → Int → Bool} (ho : OpR X (compareOp op) (rI0 fun i j => .bl (f i j))) (ho' : OpR X (compareOp op') (rI0 fun i j => .bl (g i j)))
    (h : WE Γ a δ o fun d1 o1 => WE Γ b δ o1 fun d2 o2 => ∃ i j, d1 = .int i ∧ d2 = .int j ∧ if f i j = true then WE Γ c δ o2 fun d3 o3 => ∃ l, d3 = .int l ∧ Φ (.bl (g j l)) o3 else Φ (.bl false) o2)
    (hm : lastMarks [op, op'] [b, c] = false := by with_unfolding_all rfl) : WE Γ (.Compare a [op, op'] [b, c] pos) δ o Φ := fun σ H ok => by
  refine cE_of (pe_chain ho ho' pe_c pe_c pe_c hm) ?_
  refine cE_mono (h σ H ok) fun x H1 ⟨d1, o1, w1, l1, r1, h1⟩ => ?_
  have ok1 := ok.step l1 w1
  refine cE_mono (h1 σ H1 ok1) fun y H2 ⟨d2, o2, w2, l2, r2, i, j, e1, e2, h2⟩ => ?_
  have ok2 := ok1.step l2 w2
  subst e1 e2
  refine ⟨i, j, r1.int_, r2.int_, f i j, rfl, ?_⟩
  cases hf : f i j with
  | false =>
    rw [hf, if_neg Bool.false_ne_true] at h2
    rw [if_neg Bool.false_ne_true]
    exact ⟨_, o2, w2, l1.trans l2, .bl _, h2⟩
  | true =>
    rw [hf, if_pos rfl] at h2
    rw [if_pos rfl]
    refine cE_mono (h2 σ H2 ok2) fun z H3 ⟨d3, o3, w3, l3, r3, l, e3, h3⟩ => ?_
    subst e3
    exact ⟨j, l, r2.int_, r3.int_, ⟨_, o3, w3, (l1.trans l2).trans l3, .bl _, h3⟩⟩
theorem wt_chain {op op' : CmpOp} {f g : Int → Int → Bool} {Ψ : Bool → O → Prop} (ho : OpR X (compareOp op) (rI0 fun i j => .bl (f i j))) (ho' : OpR X (compareOp op') (rI0 fun i j => .bl (g i j)))
    (h : WE Γ a δ o fun d1 o1 => WE Γ b δ o1 fun d2 o2 => ∃ i j, d1 = .int i ∧ d2 = .int j ∧ if f i j = true then WE Γ c δ o2 fun d3 o3 => ∃ l, d3 = .int l ∧ Ψ (g j l) o3 else Ψ false o2)
    (hm : lastMarks [op, op'] [b, c] = false := by with_unfolding_all rfl) : WT Γ (.Compare a [op, op'] [b, c] pos) δ o Ψ := fun σ H ok => by
  refine cT_of (pt_chain ho ho' pe_c pe_c pe_c hm) ?_
  refine cE_mono (h σ H ok) fun x H1 ⟨d1, o1, w1, l1, r1, h1⟩ => ?_
  have ok1 := ok.step l1 w1
  refine cE_mono (h1 σ H1 ok1) fun y H2 ⟨d2, o2, w2, l2, r2, i, j, e1, e2, h2⟩ => ?_
  have ok2 := ok1.step l2 w2
  subst e1 e2
  refine ⟨i, j, r1.int_, r2.int_, f i j, rfl, ?_⟩
  cases hf : f i j with
  | false =>
    rw [hf, if_neg Bool.false_ne_true] at h2
    rw [if_neg Bool.false_ne_true]
    exact ⟨_, rfl, o2, w2, l1.trans l2, h2⟩
  | true =>
    rw [hf, if_pos rfl] at h2
    rw [if_pos rfl]
    refine cE_mono (h2 σ H2 ok2) fun z H3 ⟨d3, o3, w3, l3, r3, l, e3, h3⟩ => ?_
    subst e3
    exact ⟨j, l, r2.int_, r3.int_, _, rfl, o3, w3, (l1.trans l2).trans l3, h3⟩
theorem we_lele (h : WE Γ a δ o fun d1 o1 => WE Γ b δ o1 fun d2 o2 => ∃ i j, d1 = .int i ∧ d2 = .int j ∧ if decide (i ≤ j) = true then WE Γ c δ o2 fun d3 o3 => ∃ l, d3 = .int l ∧ Φ (.bl (decide (j ≤ l))) o3 else Φ (.bl false) o2)
    (hm : lastMarks [.LtE, .LtE] [b, c] = false := by with_unfolding_all rfl) : WE Γ (.Compare a [.LtE, .LtE] [b, c] pos) δ o Φ := we_chain op_le op_le h hm
theorem we_lelt (h : WE Γ a δ o fun d1 o1 => WE Γ b δ o1 fun d2 o2 => ∃ i j, d1 = .int i ∧ d2 = .int j ∧ if decide (i ≤ j) = true then WE Γ c δ o2 fun d3 o3 => ∃ l, d3 = .int l ∧ Φ (.bl (decide (j < l))) o3 else Φ (.bl false) o2)
    (hm : lastMarks [.LtE, .Lt] [b, c] = false := by with_unfolding_all rfl) : WE Γ (.Compare a [.LtE, .Lt] [b, c] pos) δ o Φ := we_chain op_le op_lt h hm
/-- is None -/
def isNon : D → Bool
  | .non => true
  | _ => false
theorem R.isNon_ {K : PySem.W.Frag} {H : Hp} {v : V} {d : D} (r : R K τ H o v d) : decide (v = V.non) = isNon d := by
  cases r <;> first | rfl | exact decide_eq_false (by intro z; cases z)
theorem wc_isN {j pos'} (h : WE Γ a δ o fun d o' => Φ (.bl (isNon d)) o') : WC Γ .Is a (.Constant .none j pos') δ o Φ := fun σ H ok pins s I => by
  refine thn (h σ H ok pins s I) fun u s1 ⟨v, H1, I1, rv, d1, o1, w1, l1, r1, h1⟩ => ?_
  refine thn (pe_non.run pins s1 σ H1 (fun v2 H2 => v2 = .non ∧ H2 = H1) I1 ⟨rfl, rfl⟩) fun u2 s2 ⟨v2, H2, I2, rv2, e2, e3⟩ => ?_
  subst e2 e3
  exact op_isN pins s2 σ H2 v .non u u2 _ I2 rv rv2 ⟨rfl, _, o1, w1, l1, (by rw [r1.isNon_]; exact .bl _), h1⟩
theorem wc_notN {j pos'} (h : WE Γ a δ o fun d o' => Φ (.bl (!isNon d)) o') : WC Γ .IsNot a (.Constant .none j pos') δ o Φ := fun σ H ok pins s I => by
  refine thn (h σ H ok pins s I) fun u s1 ⟨v, H1, I1, rv, d1, o1, w1, l1, r1, h1⟩ => ?_
  refine thn (pe_non.run pins s1 σ H1 (fun v2 H2 => v2 = .non ∧ H2 = H1) I1 ⟨rfl, rfl⟩) fun u2 s2 ⟨v2, H2, I2, rv2, e2, e3⟩ => ?_
  subst e2 e3
  exact op_notN pins s2 σ H2 v .non u u2 _ I2 rv rv2 ⟨rfl, _, o1, w1, l1, (by rw [r1.isNon_]; exact .bl _), h1⟩

/-! ### tests -/
variable {Ψ : Bool → O → Prop}
theorem wt_val (h : WE Γ e δ o fun d o' => ∃ b, d = .bl b ∧ Ψ b o') (he : ∀ whole, isTrue e X.env whole = (do let v ← whole; standAt e.pos; holding [v] (truthy v)) := by intro _; rfl) : WT Γ e δ o Ψ := fun σ H ok =>
  cT_of (pt_val pe_c he) (cE_mono (h σ H ok) fun x H1 ⟨d, o1, w, l, r, b, e1, q⟩ => by subst e1; exact ⟨b, r.bl_, o1, w, l, q⟩)
theorem wt_not (h : WT Γ a δ o fun b o' => Ψ (!b) o') : WT Γ (.UnaryOp .Not a pos) δ o Ψ := fun σ H ok => cT_of (pt_not pt_c) (cT_mono (h σ H ok) fun _ _ q => q)
theorem wt_w {op} {rest : List Expr} (h : WW Γ (.BoolOp op rest pos) δ o Ψ) : WT Γ (.BoolOp op rest pos) δ o Ψ := fun σ H ok => cT_of (PW.pt pw_c) (h σ H ok)
theorem ww_and1 (h : WT Γ a δ o Ψ) : WW Γ (.BoolOp .And [a] pos) δ o Ψ := fun σ H ok => cW_of (pw_and1 pt_c) (h σ H ok)
theorem ww_or1 (h : WT Γ a δ o Ψ) : WW Γ (.BoolOp .Or [a] pos) δ o Ψ := fun σ H ok => cW_of (pw_or1 pt_c) (h σ H ok)
theorem ww_and {rest : List Expr} (h : WT Γ a δ o fun c o1 => if c = true then WW Γ (.BoolOp .And (b :: rest) pos) δ o1 Ψ else Ψ false o1) : WW Γ (.BoolOp .And (a :: b :: rest) pos) δ o Ψ := fun σ H ok =>
  cW_of (pw_and pt_c pw_c) (cT_mono (h σ H ok) fun c H1 ⟨o1, w, l, q⟩ => by
    cases c with
    | true =>
      rw [if_pos rfl] at q ⊢
      exact cW_mono (q σ H1 (ok.step l w)) fun _ _ p => p.le l
    | false =>
      rw [if_neg Bool.false_ne_true] at q ⊢
      exact ⟨o1, w, l, q⟩)
theorem ww_or {rest : List Expr} (h : WT Γ a δ o fun c o1 => if c = true then Ψ true o1 else WW Γ (.BoolOp .Or (b :: rest) pos) δ o1 Ψ) : WW Γ (.BoolOp .Or (a :: b :: rest) pos) δ o Ψ := fun σ H ok =>
  cW_of (pw_or pt_c pw_c) (cT_mono (h σ H ok) fun c H1 ⟨o1, w, l, q⟩ => by
    cases c with
    | false =>
      rw [if_neg Bool.false_ne_true] at q ⊢
      exact cW_mono (q σ H1 (ok.step l w)) fun _ _ p => p.le l
    | true =>
      rw [if_pos rfl] at q ⊢
      exact ⟨o1, w, l, q⟩)
/-- and, or, not as values (bools) -/
theorem we_one {op} (h : WE Γ a δ o Φ) : WE Γ (.BoolOp op [a] pos) δ o Φ := fun σ H ok => cE_of (pe_one pe_c) (h σ H ok)
theorem we_and {rest : List Expr} (h : WE Γ a δ o fun d o1 => ∃ c, d = .bl c ∧ if c = true then WE Γ (.BoolOp .And (b :: rest) pos) δ o1 Φ else Φ (.bl false) o1) : WE Γ (.BoolOp .And (a :: b :: rest) pos) δ o Φ := fun σ H ok =>
  cE_of (pe_and pe_c pe_c) (cE_mono (h σ H ok) fun x H1 ⟨d, o1, w, l, r, c, e1, q⟩ => by
    subst e1
    refine ⟨c, r.bl_, ?_⟩
    cases c with
    | true =>
      rw [if_pos rfl] at q ⊢
      exact cE_mono (q σ H1 (ok.step l w)) fun _ _ p => p.le l
    | false =>
      rw [if_neg Bool.false_ne_true] at q ⊢
      exact ⟨_, o1, w, l, .bl _, q⟩)
theorem we_or {rest : List Expr} (h : WE Γ a δ o fun d o1 => ∃ c, d = .bl c ∧ if c = true then Φ (.bl true) o1 else WE Γ (.BoolOp .Or (b :: rest) pos) δ o1 Φ) : WE Γ (.BoolOp .Or (a :: b :: rest) pos) δ o Φ := fun σ H ok =>
  cE_of (pe_or pe_c pe_c) (cE_mono (h σ H ok) fun x H1 ⟨d, o1, w, l, r, c, e1, q⟩ => by
    subst e1
    refine ⟨c, r.bl_, ?_⟩
    cases c with
    | false =>
      rw [if_neg Bool.false_ne_true] at q ⊢
      exact cE_mono (q σ H1 (ok.step l w)) fun _ _ p => p.le l
    | true =>
      rw [if_pos rfl] at q ⊢
      exact ⟨_, o1, w, l, .bl _, q⟩)
theorem we_not (h : WE Γ a δ o fun d o1 => ∃ c, d = .bl c ∧ Φ (.bl (!c)) o1) : WE Γ (.UnaryOp .Not a pos) δ o Φ := fun σ H ok =>
  cE_of (pe_not pe_c) (cE_mono (h σ H ok) fun x H1 ⟨d, o1, w, l, r, c, e1, q⟩ => by subst e1; exact ⟨c, r.bl_, _, o1, w, l, .bl _, q⟩)
theorem we_if (h : WT Γ c δ o fun b' o1 => if b' = true then WE Γ a δ o1 Φ else WE Γ b δ o1 Φ) : WE Γ (.IfExp c a b pos) δ o Φ := fun σ H ok =>
  cE_of (pe_ifExp pt_c pe_c pe_c) (cT_mono (h σ H ok) fun c H1 ⟨o1, w, l, q⟩ => by
    cases c with
    | true =>
      rw [if_pos rfl] at q ⊢
      exact cE_mono (q σ H1 (ok.step l w)) fun _ _ p => p.le l
    | false =>
      rw [if_neg Bool.false_ne_true] at q ⊢
      exact cE_mono (q σ H1 (ok.step l w)) fun _ _ p => p.le l)

/-! ### displays, items -/
theorem wa_nil {Φ : List D → O → Prop} (h : Φ [] o) : WA Γ [] δ o Φ := fun σ H ok => cA_of pa_nil ⟨[], o, ok.own, Le.refl, .nil, h⟩
theorem wa_cons {Φ : List D → O → Prop} (h : WE Γ e δ o fun d o1 => WA Γ es δ o1 fun ds o2 => Φ (d :: ds) o2) (hs : starEach (e :: es) X.env = (false, eval e X.env) :: starEach es X.env := by rfl) : WA Γ (e :: es) δ o Φ := fun σ H ok =>
  cA_of (pa_cons pe_c pa_c hs) (cE_mono (h σ H ok) fun x H1 ⟨d, o1, w1, l1, r1, h1⟩ => cA_mono (h1 σ H1 (ok.step l1 w1)) fun xs H2 ⟨ds, o2, w2, l2, r2, h2⟩ => ⟨_, o2, w2, l1.trans l2, .cons (r1.mono l2) r2, h2⟩)
theorem we_tup {x1} (h : WA Γ es δ o fun ds o1 => ds.length ≤ sizeLine ∧ Φ (.tup ds) o1) : WE Γ (.Tuple es x1 pos) δ o Φ := fun σ H ok =>
  cE_of (pe_tup pa_c) (cA_mono (h σ H ok) fun xs H1 ⟨ds, o1, w, l, r, h1, h2⟩ => ⟨by rw [r.length]; exact h1, fun p hp => (newT w hp r h2).le l⟩)
theorem we_lst (h : WA Γ es δ o fun ds o1 => ds.length ≤ sizeLine ∧ Φ (.lst ds) o1) : WE Γ (.List es pos) δ o Φ := fun σ H ok =>
  cE_of (pe_lst pa_c) (cA_mono (h σ H ok) fun xs H1 ⟨ds, o1, w, l, r, h1, h2⟩ => ⟨by rw [r.length]; exact h1, fun p hp => (newL w hp r h2).le l⟩)
/-- a[i] of a list, a tuple, a text, the script; of an owned list -/
def ixS (d1 d2 : D) (o : O) (Φ : D → O → Prop) : Prop := match d1, d2 with
  | .lst ds, .int i => ∃ d, atI ds i = some d ∧ Φ d o
  | .tup ds, .int i => ∃ d, atI ds i = some d ∧ Φ d o
  | .str x, .int i => x.length ≤ sizeLine ∧ ∃ c, atI x.cps.toList i = some c ∧ Φ (.str ⟨#[c]⟩) o
  | .scr ns, .int i => ∃ n, atI ns i = some n ∧ Φ (.int n) o
  | .ref p, .int i => ∃ ds d, o p = some (.lst ds) ∧ atI ds i = some d ∧ Φ d o
  | _, _ => False
theorem Rs.at {K : PySem.W.Frag} {H : Hp} {vs : List V} {ds : List D} {i : Int} {d : D} (r : Rs K τ H o vs ds) (h : atI ds i = some d) : ∃ v, atI vs i = some v ∧ R K τ H o v d := by
  unfold atI at h ⊢
  rw [r.length]
  cases e : ixN ds.length i with
  | none => rw [e] at h; cases h
  | some j =>
    rw [e] at h
    exact r.get (show ds[j]? = some d from h)
theorem atI_map {α β : Type} (f : α → β) {xs : List α} {i : Int} {x : α} (h : atI xs i = some x) : atI (xs.map f) i = some (f x) := by
  unfold atI at h ⊢
  rw [List.length_map]
  cases e : ixN xs.length i with
  | none => rw [e] at h; cases h
  | some j =>
    rw [e] at h
    have h' : xs[j]? = some x := h
    show (xs.map f)[j]? = _
    rw [List.getElem?_map, h'] <;> rfl
theorem op2_ix : Op2 X τ (rIx X.K) ixS := by
  intro H o x y d1 d2 Φ Q r1 r2 w s k
  cases r1 <;> cases r2 <;> try (exact False.elim s)
  · obtain ⟨s1, c, s2, s3⟩ := s
    exact .inr (.inr ⟨_, _, c, rfl, rfl, s1, s2, k _ _ (.here w (.str _) s3)⟩)
  · obtain ⟨ds, d, s0, s1, s2⟩ := s
    obtain ⟨vs, hv, q⟩ := w _ _ s0
    obtain ⟨v, e1, r⟩ := q.at s1
    exact .inl ⟨_, _, _, v, rfl, rfl, .of hv, e1, k _ _ (.here w r s2)⟩
  · rename_i h q i
    obtain ⟨d, s1, s2⟩ := s
    obtain ⟨v, e1, r⟩ := q.at s1
    exact .inr (.inl ⟨_, _, _, v, rfl, rfl, h.to, e1, k _ _ (.here w r s2)⟩)
  · rename_i h n q i
    obtain ⟨d, s1, s2⟩ := s
    obtain ⟨v, e1, r⟩ := q.at s1
    exact .inl ⟨_, _, _, v, rfl, rfl, .of h, e1, k _ _ (.here w r s2)⟩
  · rename_i h i
    obtain ⟨n, s1, s2⟩ := s
    exact .inl ⟨_, _, _, _, rfl, rfl, h.to, atI_map V.int s1, k _ _ (.here w (.int _) s2)⟩
theorem we_ix (h : WE Γ a δ o fun d1 o1 => WE Γ b δ o1 fun d2 o2 => ixS d1 d2 o2 Φ) (hx : PlainIx b := by exact fun _ _ => rfl) : WE Γ (.Subscript a b pos) δ o Φ := we_ixR ix_seq op2_ix hx h
end
end DL

set_option Elab.async false
set_option linter.all false
set_option maxRecDepth 100000
set_option maxHeartbeats 2000000
/-! DL4: promises over data; calls, methods, fields, own operators, new instances. -/
namespace DL
open PySem PySem.Spec PyProof.Rows L2

/-- what a def does, over data: the end, the exception -/
abbrev DSp := List D → O → (D → O → Prop) → (DX → O → Prop) → Prop
/-- its promise; n arguments -/
def spD (K : PySem.W.Frag) (τ : Tx) (n : Nat) (S : DSp) : Sp := fun vs H Q E => ∃ ds o Φ Ξ, Rs K τ H o vs ds ∧ Own K τ H o ∧ ds.length = n ∧ S ds o Φ Ξ ∧ (∀ v H', PostE K τ H o Φ v H' → Q v H') ∧
  ∀ cls dx H' x o', Own K τ H' o' → Le H o H' o' → RX K τ H' o' cls dx x → Ξ x o' → E cls dx H'
theorem spD_len {K : PySem.W.Frag} {τ : Tx} {n : Nat} {S : DSp} (vs : List V) (H : Hp) (Q : VK) (E : XK) (h : spD K τ n S vs H Q E) : vs.length = n := by
  obtain ⟨ds, o, Φ, Ξ, r, _, hl, _⟩ := h
  rw [r.length, hl]
theorem Rs.start {K : PySem.W.Frag} {τ : Tx} {H : Hp} {o : O} {vs : List V} {ds : List D} (r : Rs K τ H o vs ds) (N : List Str) (i : Nat) (d : D) (h : (ds.map some ++ List.replicate (N.length - ds.length) none)[i]? = some (some d)) :
    ∃ v, (L2.start N vs)[i]? = some (some v) ∧ R K τ H o v d := by
  by_cases hi : i < ds.length
  · rw [List.getElem?_append_left (by rw [List.length_map]; exact hi), List.getElem?_map] at h
    cases e : ds[i]? with
    | none => rw [e] at h; cases h
    | some d' =>
      rw [e] at h
      have h' : d' = d := by simpa using h
      subst h'
      obtain ⟨v, e1, r1⟩ := r.get e
      refine ⟨v, ?_, r1⟩
      unfold L2.start
      rw [List.getElem?_append_left (by rw [List.length_map, r.length]; exact hi), List.getElem?_map, e1] <;> rfl
  · rw [List.getElem?_append_right (by rw [List.length_map]; omega)] at h
    rw [List.getElem?_replicate] at h
    split at h <;> cases h

section
variable {P : Program} {w : World} {K : PySem.W.Frag} {mg : Str → Option Value} {base : Heap} {τ : Tx}
/-- THE RULE for a def: its body over data -/
theorem fnD {x qual : Str} {st : Stmt} {f : Addr} {fd : FuncData} {N ps : List Str} {k : Nat} {S : DSp} (F : Fun K x qual st f fd) (sc : FnScope N ps (defScope st))
    (body : ∀ (cdv : Value) (A : Around) (outer : List Env) (s : Shared) (H : Hp) (E : XK) (Ξ : DX → O → Prop) (Γ : Gm (cxOf (L2.CX P w) P w K mg base N qual (defScope st) f cdv A outer s H E) τ k fun x _ o' => Ξ x o') (ds : List D) (o : O) (Φ : D → O → Prop),
      ds.length = ps.length → S ds o Φ Ξ → WSs Γ (defBody st) (ds.map some ++ List.replicate (N.length - ds.length) none) o { nx := fun _ o' => Φ .non o', rt := Φ }) : FnOk P w K mg base (L2.CX P w) (k + 1) f fd ps (spD K τ ps.length S) := by
  refine F.okX sc (fun vs H Q E h => spD_len vs H Q E h) (fun cdv A outer s H vs Q E hr h => ?_)
  obtain ⟨ds, o, Φ, Ξ, r, ow, hl, hS, hQ, hE⟩ := h
  refine ⟨cSs _ _, pss_c, ?_⟩
  let Γ : Gm (cxOf (L2.CX P w) P w K mg base N qual (defScope st) f cdv A outer s H E) τ k fun x _ o' => Ξ x o' :=
    { H0 := H, o0 := o, W := fun cls d _ H' => E cls d H', tk := takes_of rfl rfl rfl rfl, po := passes_of rfl, room := hr, nd := sc.nd,
      hW := fun cls d σ H' x δ o' ok rx hx => hE cls d H' x o' ok.own ok.le rx hx }
  have hn : (L2.start N vs).length = (ds.map some ++ List.replicate (N.length - ds.length) none).length := by
    unfold L2.start
    rw [List.length_append, List.length_append, List.length_map, List.length_map, List.length_replicate, List.length_replicate, r.length]
  have z := body cdv A outer s H E Ξ Γ ds o Φ hl hS (L2.start N vs) H ⟨Le.refl, ow, hn, fun i d h => r.start N i d h⟩
  refine cSs_mono z (fun σ H' ⟨δ, o', ok, _, h⟩ => ?_) (fun v H' ⟨d, o', l, ow', rv, h⟩ => ?_) (fun _ _ ⟨_, _, _, _, h⟩ => h.elim) (fun _ _ ⟨_, _, _, _, h⟩ => h.elim)
  · exact hQ _ _ ⟨.non, o', ok.own, ok.le, .non, h⟩
  · exact hQ _ _ ⟨d, o', ow', l, rv, h⟩
/-- a def of the text that keeps a promise over data -/
structure FnD (P : Program) (w : World) (K : PySem.W.Frag) (mg : Str → Option Value) (base : Heap) (τ : Tx) (k : Nat) (f : Addr) (n : Nat) (S : DSp) : Prop where
  run : FnR P w K mg base (L2.CX P w) k f (spD K τ n S)
  kp : PySem.W.keepIn K (.ref f) = true
theorem FnD.mono {j k : Nat} {f : Addr} {n : Nat} {S : DSp} (F : FnD P w K mg base τ j f n S) (h : j ≤ k) : FnD P w K mg base τ k f n S := ⟨F.run.mono h, F.kp⟩
theorem FnD.of {x qual : Str} {st : Stmt} {f : Addr} {fd : FuncData} {ps : List Str} {k : Nat} {n : Nat} {S : DSp} (F : Fun K x qual st f fd) (h : FnOk P w K mg base (L2.CX P w) k f fd ps (spD K τ n S)) (b : Binds K fd ps []) : FnD P w K mg base τ k f n S :=
  ⟨(h.raw b (.nil)).imp fun vs H Q E q => by rw [List.append_nil]; exact q, F.kp⟩
/-- a weaker promise -/
theorem FnD.imp {f : Addr} {k n : Nat} {S S' : DSp} (F : FnD P w K mg base τ k f n S) (h : ∀ ds o Φ Ξ, S' ds o Φ Ξ → S ds o Φ Ξ) : FnD P w K mg base τ k f n S' :=
  ⟨F.run.imp fun vs H Q E ⟨ds, o, Φ, Ξ, r, ow, hl, hS, q⟩ => ⟨ds, o, Φ, Ξ, r, ow, hl, h _ _ _ _ hS, q⟩, F.kp⟩
end

section
variable {X : Cx} {τ : Tx} {k j n : Nat} {Ξ : DX → Δ → O → Prop} {Γ : Gm X τ k Ξ} {e a b c : Expr} {es : List Expr} {δ : Δ} {o : O} {pos p apos : Pos} {Φ : D → O → Prop} {S : DSp} {g : Addr} {x : Str}
abbrev FnX (X : Cx) (τ : Tx) (j : Nat) (g : Addr) (n : Nat) (S : DSp) : Prop := FnD X.prog X.w X.K X.mg X.base τ j g n S
/-- the callee runs, around A -/
theorem runC {A : Around} {pins : List (Addr × Obj)} {s : Shared} {σ : L2.St} {H : Hp} {vs : List V} {us : List Value} {ds : List D} (F : FnX X τ j g n S) (hr : Room j A) (hA : A.frames = X.A.frames) (I : Inv X pins σ H s)
    (ok : Okk X.K τ Γ.H0 Γ.o0 σ H δ o) (r : Vals vs us) (rd : Rs X.K τ H o vs ds) (hn : ds.length = n) (h : S ds o Φ fun x o2 => Ξ x δ o2) :
    codeAny (model X.prog X.w) A (.call (.ref g) ⟨us, []⟩) (fun r s' => match r with | .ok (.ret v) => EP X pins σ (PostE X.K τ H o Φ) v s' | .ok _ => False | .error e => X.xe e s') s := by
  have e0 : Env0 X.prog X.w X.K X.mg X.base A X.stack s H := ⟨hA.trans I.env0.frames, I.env0.mod, I.env0.bs, I.env0.bsz, I.env0.funs, I.env0.frf, I.env0.hok, I.env0.bare⟩
  refine codeAny_mono (F.run A X.stack s H us vs (PostE X.K τ H o Φ) (L2.WE Γ.W σ) hr e0 r ⟨ds, o, Φ, fun x o2 => Ξ x δ o2, rd, ok.own, hn, h, fun _ _ q => q, fun cls dx H' x o' ow l rx hx => ?_⟩) fun r s' hq => ?_
  · exact Γ.hW cls dx σ H' x δ o' (ok.step l ow) rx hx
  · cases r with
    | error e => exact passAt Γ.tk σ pins H s e s' I hq
    | ok fl =>
      cases fl with
      | ret u => exact I.after hq
      | next => exact False.elim hq
      | brk => exact False.elim hq
      | cont => exact False.elim hq
theorem runD {A : Around} {pins : List (Addr × Obj)} {s : Shared} {σ : L2.St} {H : Hp} {vs : List V} {us : List Value} {ds : List D} (F : FnX X τ j g n S) (hr : Room j A) (hA : A.frames = X.A.frames) (I : Inv X pins σ H s)
    (ok : Okk X.K τ Γ.H0 Γ.o0 σ H δ o) (r : Vals vs us) (rd : Rs X.K τ H o vs ds) (hn : ds.length = n) (h : S ds o Φ fun x o2 => Ξ x δ o2) : wpAny (model X.prog X.w) A (call (.ref g) us) (EP X pins σ (PostE X.K τ H o Φ)) X.xe s :=
  wpAny_call (runC F hr hA I ok r rd hn h)

/-! ### f(e, ..) -/
theorem we_call (F : FnX X τ j g n S) (hm : X.mg x = some (.ref g)) (h : WA Γ (e :: es) δ o fun ds o1 => ds.length = n ∧ S ds o1 Φ fun x o2 => Ξ x δ o2) (hj : j ≤ k := by decide) (hg : Gl X x := by rfl) (hdb : (x == ("__debug__" : Str)) = false := by decide)
    (he : starEach (e :: es) X.env = (false, eval e X.env) :: starEach es X.env := by rfl) (hpl : (backTo pos (starEach es X.env)).any (·.1) = false := by rfl) : WE Γ (.Call (.Name x p) (e :: es) [] pos) δ o Φ := by
  intro σ H ok pins s I
  refine wpAny_Call_Name_kw (ld_glob I hg hm ?_ hdb)
  refine PySem.W.callWith_K (h₀ := X.base) I.ok.mod.kin F.kp (thn (h σ H ok pos pins s I) fun us s1 ⟨vs, H1, I1, r, ds, o1, w1, l1, rd, hn, q⟩ => ⟨I1.kIn, ?_⟩) he hpl
  exact thn (runD F (Γ.room.mono hj) rfl I1 (ok.step l1 w1) r rd hn q) fun u s2 z => EP.imp z fun v H' p => PostE.le l1 p
theorem we_call0 (F : FnX X τ j g n S) (hm : X.mg x = some (.ref g)) (h : 0 = n ∧ S [] o Φ fun x o2 => Ξ x δ o2) (hj : j ≤ k := by decide) (hg : Gl X x := by rfl) (hdb : (x == ("__debug__" : Str)) = false := by decide) : WE Γ (.Call (.Name x p) [] [] pos) δ o Φ := by
  intro σ H ok pins s I
  refine wpAny_Call_Name_kw (ld_glob I hg hm ?_ hdb)
  refine PySem.W.callWith_K0 I.kIn F.kp ?_
  exact thn (runD F (Γ.room.mono hj) rfl I ok (.nil) (.nil) h.1 h.2) fun u s2 z => z

/-! ### instances -/
/-- the datum is an instance of the class at C with these attributes -/
inductive InsD (τ : Tx) (o : O) : D → Addr → List Str → Prop where
  | deck (c g : Int) : InsD τ o (.deck c g) τ.deck ["first", "more"]
  | tape (ss : List (Str × Int)) : InsD τ o (.tape ss) τ.tape ["listed", "begins", "total"]
  | own {a C : Addr} {fs : List (Str × D)} (h : o a = some (.ins C fs)) : InsD τ o (.ref a) C (fs.map (·.1))
theorem Rf.no {K : PySem.W.Frag} {H : Hp} {gs : List (Str × V)} {fs : List (Str × D)} (r : Rf K τ H o gs fs) {m : Str} (h : m ∉ fs.map (·.1)) : gs.lookup m = none := by
  induction r with
  | nil => rfl
  | @cons q v d vs ds hv r ih =>
    rw [List.map_cons, List.mem_cons, not_or] at h
    rw [List.lookup_cons, beq_eq_false_iff_ne.mpr h.1]
    exact ih h.2
theorem fDeck_no {c g : Int} {m : Str} (h : m ∉ (["first", "more"] : List Str)) : (fDeck c g).lookup m = none := by
  rw [List.mem_cons, List.mem_cons, not_or, not_or] at h
  unfold fDeck
  rw [lookup_putF, if_neg h.2.1, lookup_putF, if_neg h.1] <;> rfl
theorem fTape_no {t b : Addr} {n : Int} {m : Str} (h : m ∉ (["listed", "begins", "total"] : List Str)) : (fTape t b n).lookup m = none := by
  rw [List.mem_cons, List.mem_cons, List.mem_cons, not_or, not_or, not_or] at h
  unfold fTape
  rw [lookup_putF, if_neg h.2.2.1, lookup_putF, if_neg h.2.1, lookup_putF, if_neg h.1] <;> rfl
theorem InsD.at {K : PySem.W.Frag} {H : Hp} {v : V} {d : D} {C : Addr} {ns : List Str} (i : InsD τ o d C ns) (r : R K τ H o v d) (w : Own K τ H o) : ∃ a dx fs, v = .ref a ∧ H a = some (.ins C dx fs) ∧ ∀ m, m ∉ ns → fs.lookup m = none := by
  cases i with
  | deck c g => cases r with | deck h n => exact ⟨_, _, _, rfl, h, fun m hm => fDeck_no hm⟩
  | tape ss => cases r with | tape h n r hb nb => exact ⟨_, _, _, rfl, h, fun m hm => fTape_no hm⟩
  | own h =>
    cases r
    obtain ⟨dx, gs, h1, h2⟩ := w _ _ h
    exact ⟨_, dx, gs, rfl, h1, fun m hm => h2.no hm⟩
/-- o.m(e, ..) -/
theorem we_meth {C : Addr} {m : Str} {pl : Sem Bool} (F : FnX X τ j g n S) (c : Cls X.K C) (hm : Meth X.K C m g)
    (h : WE Γ a δ o fun d o1 => ∃ ns, InsD τ o1 d C ns ∧ m ∉ ns ∧ WA Γ (e :: es) δ o1 fun ds o2 => (d :: ds).length = n ∧ S (d :: ds) o2 Φ fun x o3 => Ξ x δ o3) (hj : j ≤ k := by decide)
    (hst : starEach (e :: es) X.env = (false, eval e X.env) :: starEach es X.env := by rfl) (hpl : (backTo pos (starEach es X.env)).any (·.1) = false := by rfl)
    (ht : eval (.Call (.Attribute a m apos) (e :: es) [] pos) X.env = (do
      let ov ← eval a X.env
      standAt apos.atName
      let (f, first) ← holding [ov] (getMethod ov m pl)
      callWith pos f first (backTo pos (starEach (e :: es) X.env)) (backToKw pos (keywordEach [] X.env))) := by rfl) :
    WE Γ (.Call (.Attribute a m apos) (e :: es) [] pos) δ o Φ := by
  intro σ H ok pins s I
  refine PySem.W.methodCall_KW (pl := pl) (thn (h σ H ok pins s I) fun u s1 ⟨x, H1, I1, rx, d, o1, w1, l1, r1, ns, i, hni, q⟩ => ?_) ht
  obtain ⟨p, dx, fs, rfl, hp, hno⟩ := i.at r1 w1
  obtain rfl : u = Value.ref p := rx
  have ok1 := ok.step l1 w1
  refine getmeth_ok I1 hp c hm (hno m hni) ?_
  refine PySem.W.callWith_K (first := [.ref p]) (h₀ := X.base) I.ok.mod.kin hm.kp (thn (q σ H1 ok1 pos pins s1 I1) fun us s2 ⟨vs, H2, I2, r, ds, o2, w2, l2, rd, hn, q2⟩ => ⟨I2.kIn, ?_⟩) hst hpl
  exact thn (runD (us := .ref p :: us) (vs := .ref p :: vs) F (Γ.room.mono hj) rfl I2 (ok1.step l2 w2) (.cons rfl r) (.cons (r1.mono l2) rd) hn q2) fun u s3 z => EP.imp z fun v H' p => PostE.le (l1.trans l2) p
theorem we_meth0 {C : Addr} {m : Str} {pl : Sem Bool} (F : FnX X τ j g n S) (c : Cls X.K C) (hm : Meth X.K C m g)
    (h : WE Γ a δ o fun d o1 => ∃ ns, InsD τ o1 d C ns ∧ m ∉ ns ∧ 1 = n ∧ S [d] o1 Φ fun x o3 => Ξ x δ o3) (hj : j ≤ k := by decide)
    (ht : eval (.Call (.Attribute a m apos) [] [] pos) X.env = (do
      let ov ← eval a X.env
      standAt apos.atName
      let (f, first) ← holding [ov] (getMethod ov m pl)
      callWith pos f first (backTo pos (starEach [] X.env)) (backToKw pos (keywordEach [] X.env))) := by rfl) :
    WE Γ (.Call (.Attribute a m apos) [] [] pos) δ o Φ := by
  intro σ H ok pins s I
  refine PySem.W.methodCall_KW (pl := pl) (thn (h σ H ok pins s I) fun u s1 ⟨x, H1, I1, rx, d, o1, w1, l1, r1, ns, i, hni, hn, q⟩ => ?_) ht
  obtain ⟨p, dx, fs, rfl, hp, hno⟩ := i.at r1 w1
  obtain rfl : u = Value.ref p := rx
  have ok1 := ok.step l1 w1
  refine getmeth_ok I1 hp c hm (hno m hni) ?_
  refine PySem.W.callWith_K0 (first := [.ref p]) I1.kIn hm.kp ?_
  exact thn (runD (us := [.ref p]) (vs := [.ref p]) F (Γ.room.mono hj) rfl I1 ok1 (.cons rfl .nil) (.cons r1 .nil) hn q) fun u s3 z => EP.imp z fun v H' p => PostE.le l1 p
/-- f(e, ..) of an instance -/
theorem we_callO {C : Addr} {fe : Expr} (F : FnX X τ j g n S) (c : StX.CallO X.K C g)
    (h : WE Γ fe δ o fun d o1 => (∃ ns, InsD τ o1 d C ns) ∧ WA Γ (e :: es) δ o1 fun ds o2 => (∃ ns, InsD τ o2 d C ns) ∧ (d :: ds).length = n ∧ S (d :: ds) o2 Φ fun x o3 => Ξ x δ o3)
    (hj : j ≤ k := by decide)
    (ht : eval (.Call fe (e :: es) [] pos) X.env = (do callWith pos (← eval fe X.env) [] (backTo pos (starEach (e :: es) X.env)) (backToKw pos (keywordEach [] X.env))) := by rfl)
    (he : starEach (e :: es) X.env = (false, eval e X.env) :: starEach es X.env := by rfl) (hpl : (backTo pos (starEach es X.env)).any (·.1) = false := by rfl) : WE Γ (.Call fe (e :: es) [] pos) δ o Φ := by
  intro σ H ok pins s I
  refine Call_ (thn (h σ H ok pins s I) fun u s1 ⟨x, H1, I1, rx, d, o1, w1, l1, r1, ⟨ns, i⟩, q⟩ => ?_) ht
  obtain ⟨p, dx, fs, rfl, hp, _⟩ := i.at r1 w1
  obtain rfl : u = Value.ref p := rx
  have ok1 := ok.step l1 w1
  refine StX.callO_with (thn (q σ H1 ok1 pos pins s1 I1) fun us s2 ⟨vs, H2, I2, r, ds, o2, w2, l2, rd, ⟨ns2, i2⟩, hn, q2⟩ => ?_) he hpl
  obtain ⟨p', dx2, fs2, e2, hp2, _⟩ := i2.at (r1.mono l2) w2
  cases e2
  obtain ⟨ox, od, J, hd⟩ := StX.insC_at (C := C) I2 (.inr ⟨dx2, fs2, hp2⟩)
  refine ⟨⟨C, ox, od, J, hd⟩, ?_⟩
  have z := runC (us := .ref p :: us) (vs := .ref p :: vs) (A := X.A) F (Γ.room.mono hj) rfl I2 (ok1.step l2 w2) (.cons rfl r) (.cons (r1.mono l2) rd) hn q2
  exact thn (wpAny_call (PySem.W.kco_code I2.kIn J hd c.at_ c.fn c.fi z)) fun u s3 z => EP.imp z fun v H' p => PostE.le (l1.trans l2) p
end
end DL

set_option Elab.async false
set_option linter.all false
set_option maxRecDepth 100000
set_option maxHeartbeats 2000000
/-! DL5: own operators, fields, properties, new instances; isinstance. -/
namespace DL
open PySem PySem.Spec PyProof.Rows L2
section
variable {X : Cx} {τ : Tx} {k j n : Nat} {Ξ : DX → Δ → O → Prop} {Γ : Gm X τ k Ξ} {e a b c : Expr} {es : List Expr} {δ : Δ} {o : O} {pos p apos : Pos} {Φ : D → O → Prop} {S : DSp} {g : Addr} {x : Str}
/-- a datum's type -/
def tyD (τ : Tx) : D → Value
  | .non => .type "NoneType"
  | .bl _ => .type "bool"
  | .int _ => .type "int"
  | .str _ => .type "str"
  | .byt _ => .type "bytes"
  | .tup _ => .type "tuple"
  | .lst _ => .type "list"
  | .dct _ => .type "dict"
  | .deck _ _ => .ref τ.deck
  | .tape _ => .ref τ.tape
  | .scr _ => .type "list"
  | .ref _ => .none
  | .ty _ => .none
theorem look_at {M : Model} {h : Heap} {a : Addr} {ob : Obj} (e : h.get? a = some ob) : PySem.W.Looks M h (typeOf (.ref a)) ob.cls := (PySem.W.Looks.ld e).andThen .now
theorem R.looks {pins : List (Addr × Obj)} {σ : L2.St} {H : Hp} {s : Shared} {v : V} {u : Value} {d : D} {M : Model} (I : Inv X pins σ H s) (r : R X.K τ H o v d) (ru : RelV v u) (hd : tyD τ d ≠ .none) : PySem.W.Looks M s.heap (typeOf u) (tyD τ d) := by
  cases r with
  | non => cases ru; exact .now
  | bl b => cases ru; exact .now
  | int i => obtain ⟨t, rfl⟩ := ru; exact .now
  | str x => obtain ⟨t, rfl⟩ := ru; exact .now
  | byt x => obtain ⟨t, rfl⟩ := ru; exact .now
  | ref a => exact (hd rfl).elim
  | ty n => exact (hd rfl).elim
  | tup h r =>
    cases ru
    obtain ⟨its, rv, ⟨ob, ho, hc, _⟩, _⟩ := I.tuple h.to
    have := look_at (M := M) ho
    rw [hc] at this
    exact this
  | lst h n r =>
    cases ru
    obtain ⟨its, n, rv, ho, _⟩ := I.lst h
    exact look_at ho
  | scr h =>
    cases ru
    obtain ⟨its, rv, ⟨ob, n, ho, hc, _⟩, _⟩ := I.list h.to
    have := look_at (M := M) ho
    rw [hc] at this
    exact this
  | dct h n r =>
    cases ru
    obtain ⟨_, _, vs, _, ob, es, ep, ho, h2, _⟩ := I.hok _ _ h
    have := look_at (M := M) ho
    rw [h2.1] at this
    exact this
  | deck h n =>
    cases ru
    obtain ⟨mA, J, _⟩ := ins_get I.hok h
    exact look_at J.obj
  | tape h n r hb nb =>
    cases ru
    obtain ⟨mA, J, _⟩ := ins_get I.hok h
    exact look_at J.obj
theorem back_of {pins : List (Addr × Obj)} {σ : L2.St} {Q : VK} {u : Value} {s : Shared} (h : EP X pins σ Q u s) : PySem.W.CmpBack (EP X pins σ Q) u s := by
  cases u with
  | notImplemented => obtain ⟨v, H', _, r, _⟩ := h; cases v <;> first | exact (nomatch r) | (obtain ⟨t, e⟩ := r; cases e)
  | _ => exact h
theorem InsD.inst {pins : List (Addr × Obj)} {σ : L2.St} {H : Hp} {s : Shared} {v : V} {d : D} {C : Addr} {ns : List Str} (I : Inv X pins σ H s) (i : InsD τ o d C ns) (r : R X.K τ H o v d) (w : Own X.K τ H o) :
    ∃ (q dx : Addr) (od : Obj), v = .ref q ∧ PySem.W.InstAt s.heap q (PySem.W.instObj C dx) C (some od) := by
  obtain ⟨q, dx, fs, rfl, hq, _⟩ := i.at r w
  obtain ⟨mA, J, _⟩ := ins_get I.hok hq
  obtain ⟨od, J, _⟩ := J.look
  exact ⟨q, dx, od, rfl, J⟩
/-- two expressions, then an operation on their values -/
theorem two {T : D → D → O → Prop} {α : Type} {f : Value → Value → Sem α} {Q : α → Shared → Prop} {pins : List (Addr × Obj)} {s : Shared} {σ : L2.St} {H : Hp} (h : WE Γ a δ o fun d1 o1 => WE Γ b δ o1 fun d2 o2 => T d1 d2 o2) (ok : Okk X.K τ Γ.H0 Γ.o0 σ H δ o) (I : Inv X pins σ H s)
    (hf : ∀ u1 u2 s2 v1 v2 H2 d1 d2 o2, Inv X pins σ H2 s2 → RelV v1 u1 → RelV v2 u2 → R X.K τ H2 o2 v1 d1 → R X.K τ H2 o2 v2 d2 → Le H o H2 o2 → Okk X.K τ Γ.H0 Γ.o0 σ H2 δ o2 → T d1 d2 o2 → wpAny (model X.prog X.w) X.A (f u1 u2) Q X.xe s2) :
    wpAny (model X.prog X.w) X.A (eval a X.env) (fun v s₁ => wpAny (model X.prog X.w) X.A (eval b X.env) (fun u s₂ => wpAny (model X.prog X.w) X.A (f v u) Q X.xe s₂) X.xe s₁) X.xe s := by
  refine thn (h σ H ok pins s I) fun u s1 ⟨v, H1, I1, rv, d1, o1, w1, l1, r1, h1⟩ => ?_
  have ok1 := ok.step l1 w1
  refine thn (h1 σ H1 ok1 pins s1 I1) fun u2 s2 ⟨v2, H2, I2, rv2, d2, o2, w2, l2, r2, q⟩ => ?_
  exact hf u u2 s2 v v2 H2 d1 d2 o2 I2 rv rv2 (r1.mono l2) r2 (l1.trans l2) (ok1.step l2 w2) q
/-- what the class says of a binary operator whose right operand is of the class itself, or of a built-in type -/
structure BinC (K : PySem.W.Frag) (C : Addr) (op : Operator) (g : Addr) : Prop where
  self : PySem.W.selfFirst K C = true
  at_ : PySem.W.findIn K (.ref C) (PySem.dunder op.info.2) = some (some (.ref g))
  fn : PySem.W.isFn K (.ref g) = true
structure BinT (K : PySem.W.Frag) (C : Addr) (op : Operator) (T : String) : Prop where
  r : ∃ rc, PySem.W.findIn K (.ref C) (PySem.dunderR op.info.2) = some rc ∧ (rc = none ∨ ∃ g : Addr, rc = some (.ref g))
  h1 : ∃ fo, PySem.W.findIn K (.type T) (PySem.dunder op.info.2) = some fo
  h2 : ∃ ro, PySem.W.findIn K (.type T) (PySem.dunderR op.info.2) = some ro
  sub : PySem.W.subIn K (.type T) (.ref C) = some false
/-- a op b, both of the class at C -/
theorem we_binC {C : Addr} {op : Operator} (F : FnX X τ j g 2 S) (c : BinC X.K C op g)
    (h : WE Γ a δ o fun d1 o1 => WE Γ b δ o1 fun d2 o2 => (∃ ns, InsD τ o2 d1 C ns) ∧ (∃ ns, InsD τ o2 d2 C ns) ∧ S [d1, d2] o2 Φ fun x o3 => Ξ x δ o3) (hj : j ≤ k := by decide) : WE Γ (.BinOp a op b pos) δ o Φ := by
  intro σ H ok pins s I
  refine wpAny_BinOp (two h ok I fun u1 u2 s2 v1 v2 H2 d1 d2 o2 I2 rv1 rv2 r1 r2 l ok2 ⟨⟨n1, i1⟩, ⟨n2, i2⟩, q⟩ => ?_)
  obtain ⟨q1, dx1, od1, rfl, J1⟩ := i1.inst I2 r1 ok2.own
  obtain ⟨q2, dx2, od2, rfl, J2⟩ := i2.inst I2 r2 ok2.own
  obtain rfl : u1 = Value.ref q1 := rv1
  obtain rfl : u2 = Value.ref q2 := rv2
  obtain ⟨m, hF⟩ := I2.fr
  refine PySem.W.binop_K hF I2.ok.mod.kin J1 J2.type c.self c.at_ c.fn ?_
  exact thn (runD (us := [.ref q1, .ref q2]) (vs := [.ref q1, .ref q2]) F (Γ.room.mono hj) rfl I2 ok2 (.cons rfl (.cons rfl .nil)) (.cons r1 (.cons r2 .nil)) rfl q) fun u s3 z => back_of (EP.imp z fun v H' p => PostE.le l p)
def tyN : D → String
  | .non => "NoneType" | .bl _ => "bool" | .int _ => "int" | .str _ => "str" | _ => ""
theorem typeOf_pure {v : V} {u : Value} {K : PySem.W.Frag} {H : Hp} {d : D} (r : R K τ H o v d) (ru : RelV v u) (hn : tyN d ≠ "") : typeOf u = pure (.type (tyN d)) := by
  cases r with
  | non => cases ru; rfl
  | bl b => cases ru; rfl
  | int i => obtain ⟨t, rfl⟩ := ru; rfl
  | str x => obtain ⟨t, rfl⟩ := ru; rfl
  | _ => exact (hn rfl).elim
/-- a op b, b of a plain built-in type -/
theorem we_binT {C : Addr} {op : Operator} (F : FnX X τ j g 2 S) (c : BinC X.K C op g)
    (h : WE Γ a δ o fun d1 o1 => WE Γ b δ o1 fun d2 o2 => (∃ ns, InsD τ o2 d1 C ns) ∧ (tyN d2 ≠ "" ∧ BinT X.K C op (tyN d2)) ∧ S [d1, d2] o2 Φ fun x o3 => Ξ x δ o3) (hj : j ≤ k := by decide) : WE Γ (.BinOp a op b pos) δ o Φ := by
  intro σ H ok pins s I
  refine wpAny_BinOp (two h ok I fun u1 u2 s2 v1 v2 H2 d1 d2 o2 I2 rv1 rv2 r1 r2 l ok2 ⟨⟨n1, i1⟩, ⟨hn, t⟩, q⟩ => ?_)
  obtain ⟨q1, dx1, od1, rfl, J1⟩ := i1.inst I2 r1 ok2.own
  obtain rfl : u1 = Value.ref q1 := rv1
  obtain ⟨m, hF⟩ := I2.fr
  obtain ⟨rc, hr, hp⟩ := t.r
  obtain ⟨fo, hf1⟩ := t.h1
  obtain ⟨ro, hf2⟩ := t.h2
  refine PySem.W.ksp_binT hF I2.ok.mod.kin J1 (typeOf_pure r2 rv2 hn) c.self c.at_ c.fn hr hp hf1 hf2 t.sub ?_
  exact thn (runD (us := [.ref q1, u2]) (vs := [.ref q1, v2]) F (Γ.room.mono hj) rfl I2 ok2 (.cons rfl (.cons rv2 .nil)) (.cons r1 (.cons r2 .nil)) rfl q) fun u s3 z => back_of (EP.imp z fun v H' p => PostE.le l p)
/-- ~a -/
theorem we_invO {C : Addr} (F : FnX X τ j g 1 S) (hs : PySem.W.findIn X.K (.ref C) "__invert__" = some (some (.ref g))) (hf : PySem.W.isFn X.K (.ref g) = true)
    (h : WE Γ a δ o fun d1 o1 => (∃ ns, InsD τ o1 d1 C ns) ∧ S [d1] o1 Φ fun x o3 => Ξ x δ o3) (hj : j ≤ k := by decide) : WE Γ (.UnaryOp .Invert a pos) δ o Φ := by
  intro σ H ok pins s I
  refine UnaryOp_ (thn (h σ H ok pins s I) fun u s1 ⟨v, H1, I1, rv, d1, o1, w1, l1, r1, ⟨n1, i1⟩, q⟩ => ?_)
  obtain ⟨q1, dx1, od1, rfl, J1⟩ := i1.inst I1 r1 w1
  obtain rfl : u = Value.ref q1 := rv
  obtain ⟨m, hF⟩ := I1.fr
  refine PySem.W.ksp_inv hF I1.ok.mod.kin J1 hs hf ?_
  exact thn (runD (us := [.ref q1]) (vs := [.ref q1]) F (Γ.room.mono hj) rfl I1 (ok.step l1 w1) (.cons rfl .nil) (.cons r1 .nil) rfl q) fun u s3 z => EP.imp z fun v H' p => PostE.le l1 p
/-- what the class says of its own == -/
structure EqC (K : PySem.W.Frag) (C g : Addr) : Prop where
  at_ : PySem.W.findIn K (.ref C) "__eq__" = some (some (.ref g))
  fn : PySem.W.isFn K (.ref g) = true
/-- a == b, a of the class at C with an own __eq__ -/
theorem wc_eqO {C : Addr} (F : FnX X τ j g 2 S) (c : EqC X.K C g)
    (h : WE Γ a δ o fun d1 o1 => WE Γ b δ o1 fun d2 o2 => (∃ ns, InsD τ o2 d1 C ns) ∧ (tyD τ d2 ≠ .none ∧ PySem.W.notFirst X.K C (tyD τ d2) = true) ∧ S [d1, d2] o2 Φ fun x o3 => Ξ x δ o3) (hj : j ≤ k := by decide) : WC Γ .Eq a b δ o Φ := by
  intro σ H ok pins s I
  refine two h ok I fun u1 u2 s2 v1 v2 H2 d1 d2 o2 I2 rv1 rv2 r1 r2 l ok2 ⟨⟨n1, i1⟩, ⟨hn, t⟩, q⟩ => ?_
  obtain ⟨q1, dx1, od1, rfl, J1⟩ := i1.inst I2 r1 ok2.own
  obtain rfl : u1 = Value.ref q1 := rv1
  obtain ⟨m, hF⟩ := I2.fr
  show wpAny (model X.prog X.w) X.A (richCompare .Eq (.ref q1) u2) _ X.xe s2
  refine PySem.W.cmp_K (op := .Eq) (tb := tyD τ d2) Γ.room.units0 hF I2.ok.mod.kin J1 (R.looks I2 r2 rv2 hn) t c.at_ c.fn ?_
  exact thn (runD (us := [.ref q1, u2]) (vs := [.ref q1, v2]) F (Γ.room.mono hj) rfl I2 ok2 (.cons rfl (.cons rv2 .nil)) (.cons r1 (.cons r2 .nil)) rfl q) fun u s3 z => back_of (EP.imp z fun v H' p => PostE.le l p)
/-- a[b], a of the class at C with an own __getitem__ -/
structure IxC (K : PySem.W.Frag) (C g : Addr) : Prop where
  at_ : PySem.W.findIn K (.ref C) "__getitem__" = some (some (.ref g))
  fi : PySem.W.fnIn K g = true
  fn : PySem.W.isFn K (.ref g) = true
theorem we_ixO {C : Addr} (F : FnX X τ j g 2 S) (c : IxC X.K C g)
    (h : WE Γ a δ o fun d1 o1 => WE Γ b δ o1 fun d2 o2 => (∃ ns, InsD τ o2 d1 C ns) ∧ S [d1, d2] o2 Φ fun x o3 => Ξ x δ o3) (hj : j + 1 ≤ k := by decide)
    (hsl : ∀ q i, subscripted b true (.ref q) i = runValue (.builtin "lifetime.subscript" ⟨[.ref q, i], []⟩) := by intros; with_unfolding_all rfl) : WE Γ (.Subscript a b pos) δ o Φ := by
  intro σ H ok pins s I
  refine Subscript_ (two h ok I fun u1 u2 s2 v1 v2 H2 d1 d2 o2 I2 rv1 rv2 r1 r2 l ok2 ⟨⟨n1, i1⟩, q⟩ => ?_)
  obtain ⟨q1, dx1, od1, rfl, J1⟩ := i1.inst I2 r1 ok2.own
  obtain rfl : u1 = Value.ref q1 := rv1
  obtain ⟨m, hF⟩ := I2.fr
  refine PySem.W.sub_K hF I2.ok.mod.kin J1 c.at_ c.fi c.fn ?_ (hsl q1 u2)
  exact thn (runD (A := X.A.in1) (us := [.ref q1, u2]) (vs := [.ref q1, v2]) F (Γ.room.mono hj).in1 rfl I2 ok2 (.cons rfl (.cons rv2 .nil)) (.cons r1 (.cons r2 .nil)) rfl q) fun u s3 z => EP.imp z fun v H' p => PostE.le l p
/-- b in a, a of the class at C with an own __contains__ that gives a bool -/
structure InC (K : PySem.W.Frag) (C g : Addr) : Prop where
  at_ : PySem.W.findIn K (.ref C) "__contains__" = some (some (.ref g))
  fn : PySem.W.isFn K (.ref g) = true
theorem wc_inO {C : Addr} (F : FnX X τ j g 2 S) (c : InC X.K C g)
    (h : WE Γ a δ o fun d1 o1 => WE Γ b δ o1 fun d2 o2 => (∃ ns, InsD τ o2 d2 C ns) ∧ S [d2, d1] o2 (fun d o3 => ∃ q, d = .bl q ∧ Φ (.bl q) o3) fun x o3 => Ξ x δ o3) (hj : j ≤ k := by decide) : WC Γ .In a b δ o Φ := by
  intro σ H ok pins s I
  refine two h ok I fun u1 u2 s2 v1 v2 H2 d1 d2 o2 I2 rv1 rv2 r1 r2 l ok2 ⟨⟨n1, i1⟩, q⟩ => ?_
  obtain ⟨q1, dx1, od1, rfl, J1⟩ := i1.inst I2 r2 ok2.own
  obtain rfl : u2 = Value.ref q1 := rv2
  obtain ⟨m, hF⟩ := I2.fr
  refine PySem.W.in_K hF I2.ok.mod.kin J1 c.at_ c.fn ?_
  refine thn (runD (us := [.ref q1, u1]) (vs := [.ref q1, v1]) F (Γ.room.mono hj) rfl I2 ok2 (.cons rfl (.cons rv1 .nil)) (.cons r2 (.cons r1 .nil)) rfl q) fun u s3 ⟨v, H3, I3, rv, d, o3, w3, l3, r3, y, ey, q3⟩ => ?_
  subst ey
  cases r3
  cases rv
  exact wpAny_truthy_bool ⟨.bl y, H3, I3, rfl, .bl y, o3, w3, l.trans l3, .bl y, q3⟩
theorem wc_notInO {C : Addr} (F : FnX X τ j g 2 S) (c : InC X.K C g)
    (h : WE Γ a δ o fun d1 o1 => WE Γ b δ o1 fun d2 o2 => (∃ ns, InsD τ o2 d2 C ns) ∧ S [d2, d1] o2 (fun d o3 => ∃ q, d = .bl q ∧ Φ (.bl (!q)) o3) fun x o3 => Ξ x δ o3) (hj : j ≤ k := by decide) : WC Γ .NotIn a b δ o Φ := by
  intro σ H ok pins s I
  refine two h ok I fun u1 u2 s2 v1 v2 H2 d1 d2 o2 I2 rv1 rv2 r1 r2 l ok2 ⟨⟨n1, i1⟩, q⟩ => ?_
  obtain ⟨q1, dx1, od1, rfl, J1⟩ := i1.inst I2 r2 ok2.own
  obtain rfl : u2 = Value.ref q1 := rv2
  obtain ⟨m, hF⟩ := I2.fr
  refine PySem.W.notIn_K hF I2.ok.mod.kin J1 c.at_ c.fn ?_
  refine thn (runD (us := [.ref q1, u1]) (vs := [.ref q1, v1]) F (Γ.room.mono hj) rfl I2 ok2 (.cons rfl (.cons rv1 .nil)) (.cons r2 (.cons r1 .nil)) rfl q) fun u s3 ⟨v, H3, I3, rv, d, o3, w3, l3, r3, y, ey, q3⟩ => ?_
  subst ey
  cases r3
  cases rv
  exact wpAny_truthy_bool ⟨.bl (!y), H3, I3, rfl, .bl (!y), o3, w3, l.trans l3, .bl (!y), q3⟩
/-! ### fields, properties -/
/-- what a class of ours must have -/
structure ClsX (K : PySem.W.Frag) (C : Addr) (ns : List Str) : Prop where
  cl : Cls K C
  no : ∀ f ∈ ns, NoAttr K C f
def fldS (f : Str) : D → O → (D → O → Prop) → Prop
  | .deck c g, o, Φ => (f = "first" ∧ Φ (.int c) o) ∨ (f = "more" ∧ Φ (.int g) o)
  | .tape ss, o, Φ => (f = "listed" ∧ Φ (.tup (ss.map songD)) o) ∨ (f = "total" ∧ Φ (.int (total ss)) o)
  | .ref a, o, Φ => ∃ C fs d, o a = some (.ins C fs) ∧ fs.lookup f = some d ∧ Φ d o
  | _, _, _ => False
theorem Rf.at {K : PySem.W.Frag} {H : Hp} {gs : List (Str × V)} {fs : List (Str × D)} (r : Rf K τ H o gs fs) {f : Str} {d : D} (h : fs.lookup f = some d) : ∃ v, gs.lookup f = some v ∧ R K τ H o v d := by
  induction r with
  | nil => cases h
  | @cons q v d' vs ds hv r ih =>
    rw [List.lookup_cons] at h ⊢
    cases e : (f == q) with
    | true =>
      rw [e] at h
      cases h
      exact ⟨v, rfl, hv⟩
    | false =>
      rw [e] at h
      exact ih h
theorem kfm : ¬ (("first" : Str) = "more") := by decide +kernel
theorem kmf : ¬ (("more" : Str) = "first") := by decide +kernel
theorem klb : ¬ (("listed" : Str) = "begins") := by decide +kernel
theorem klt : ¬ (("listed" : Str) = "total") := by decide +kernel
theorem kbt : ¬ (("begins" : Str) = "total") := by decide +kernel
theorem fDeck_first {c g : Int} : (fDeck c g).lookup ("first" : Str) = some (V.int c) := by
  unfold fDeck
  rw [lookup_putF, if_neg kfm, lookup_putF, if_pos rfl]
theorem fDeck_more {c g : Int} : (fDeck c g).lookup ("more" : Str) = some (V.int g) := by
  unfold fDeck
  rw [lookup_putF, if_pos rfl]
theorem fTape_listed {t b : Addr} {n : Int} : (fTape t b n).lookup ("listed" : Str) = some (V.ref t) := by
  unfold fTape
  rw [lookup_putF, if_neg klt, lookup_putF, if_neg klb, lookup_putF, if_pos rfl]
theorem fTape_begins {t b : Addr} {n : Int} : (fTape t b n).lookup ("begins" : Str) = some (V.ref b) := by
  unfold fTape
  rw [lookup_putF, if_neg kbt, lookup_putF, if_pos rfl]
theorem fTape_total {t b : Addr} {n : Int} : (fTape t b n).lookup ("total" : Str) = some (V.int n) := by
  unfold fTape
  rw [lookup_putF, if_pos rfl]
theorem we_fld {f : Str} (h : WE Γ a δ o fun d o1 => ∃ C ns, InsD τ o1 d C ns ∧ ClsX X.K C ns ∧ f ∈ ns ∧ fldS f d o1 Φ) (hb : attributeBase a f X.env (eval a X.env) = eval a X.env := by rfl) : WE Γ (.Attribute a f pos) δ o Φ := by
  intro σ H ok
  refine cE_of (pe_fld pe_c hb) (cE_mono (h σ H ok) fun v H1 ⟨d, o1, w, l, r, C, ns, i, c, hf, q⟩ => ?_)
  cases i with
  | deck c' g' =>
    cases r with
    | deck hp hn =>
      rcases q with ⟨rfl, q⟩ | ⟨rfl, q⟩
      · exact ⟨_, _, _, _, _, rfl, hp, c.cl, c.no _ hf, fDeck_first, _, o1, w, l, .int _, q⟩
      · exact ⟨_, _, _, _, _, rfl, hp, c.cl, c.no _ hf, fDeck_more, _, o1, w, l, .int _, q⟩
  | tape ss =>
    cases r with
    | tape hp hn rt hb nb =>
      rcases q with ⟨rfl, q⟩ | ⟨rfl, q⟩
      · exact ⟨_, _, _, _, _, rfl, hp, c.cl, c.no _ hf, fTape_listed, _, o1, w, l, rt, q⟩
      · exact ⟨_, _, _, _, _, rfl, hp, c.cl, c.no _ hf, fTape_total, _, o1, w, l, .int _, q⟩
  | own hp =>
    cases r
    obtain ⟨C', fs', d', e1, e2, q⟩ := q
    rw [e1] at hp
    cases hp
    obtain ⟨dx, gs, h1, h2⟩ := w _ _ e1
    obtain ⟨v, e3, r3⟩ := h2.at e2
    exact ⟨_, _, _, _, _, rfl, h1, c.cl, c.no _ hf, e3, _, o1, w, l, r3, q⟩
/-- e.f, a property -/
theorem we_prop {C p' : Addr} {f : Str} (F : FnX X τ j g 1 S) (c : Cls X.K C) (hp : PropOf X.K C f p' g)
    (h : WE Γ a δ o fun d1 o1 => (∃ ns, InsD τ o1 d1 C ns) ∧ S [d1] o1 Φ fun _ _ => False) (hj : j + 1 ≤ k := by decide) (hb : attributeBase a f X.env (eval a X.env) = eval a X.env := by rfl) : WE Γ (.Attribute a f pos) δ o Φ := by
  intro σ H ok pins s I
  refine attr_of hb (thn (h σ H ok pins s I) fun u s1 ⟨v, H1, I1, rv, d1, o1, w1, l1, r1, ⟨n1, i1⟩, q⟩ => ?_)
  obtain ⟨q1, dx1, od1, rfl, J⟩ := i1.inst I1 r1 w1
  obtain rfl : u = Value.ref q1 := rv
  obtain ⟨rest, hrec⟩ := hp.rec_
  have I2 := I1.tok (s1.toks + 1)
  have hc : (PySem.W.clsIn X.K C).isSome = true := by
    obtain ⟨cd, hc, _⟩ := PySem.W.any_some c.hd
    rw [hc]
    rfl
  refine PySem.W.get_bind I1.kIn J (PySem.W.plainGet_of (c.get f)).1 (PySem.W.findObj_data hc hp.at_ hp.get hp.tak) (PySem.W.plainGet_of (c.get f)).2 (wpAny_call (PySem.W.prop_get (s := { s1 with toks := s1.toks + 1 }) I1.kIn hrec ?_))
  have e0 : Env0 X.prog X.w X.K X.mg X.base X.A.in1 X.stack { s1 with toks := s1.toks + 1 } H1 := I2.env0.in1
  have z := F.run X.A.in1 X.stack { s1 with toks := s1.toks + 1 } H1 [.ref q1] [.ref q1] (PostE X.K τ H1 o1 Φ) (fun _ _ _ => False) (Γ.room.mono hj).in1 e0 (.cons rfl .nil) ⟨[d1], o1, Φ, fun _ _ => False, .cons r1 .nil, w1, rfl, q, fun _ _ q => q, fun _ _ _ _ _ _ _ _ f => f⟩
  refine codeAny_mono z fun r s' hq => ?_
  cases r with
  | error er => obtain ⟨_, _, _, _, _, _, _, _, _, _, _, _, f⟩ := hq; exact f.elim
  | ok fl =>
    cases fl with
    | ret u =>
      obtain ⟨v, H', I3, rv, q3⟩ := I2.after hq
      show wpAny _ _ (handedOut u) _ _ _
      rw [PySem.W.handedOut_of (handed_of rv)]
      exact wpAny_pure ⟨v, H', I3, rv, PostE.le l1 q3⟩
    | next => exact False.elim hq
    | brk => exact False.elim hq
    | cont => exact False.elim hq
end
end DL

set_option Elab.async false
set_option linter.all false
set_option maxRecDepth 100000
set_option maxHeartbeats 2000000
/-! DL6: statements, loops, ownership, new instances. -/
namespace DL
open PySem PySem.Spec PyProof.Rows L2
section
variable {X : Cx} {τ : Tx} {k j n : Nat} {Ξ : DX → Δ → O → Prop} {Γ : Gm X τ k Ξ} {e a b c : Expr} {es : List Expr} {δ : Δ} {o : O} {pos p apos : Pos} {Φ : D → O → Prop} {S : DSp} {g : Addr} {x : Str} {st : Stmt} {sts : List Stmt} {E : DE}
theorem toE_cS {H H1 : Hp} {o1 : O} {σ : L2.St} (l : Le H o H1 o1) (h : cS X st (toE X.K τ Γ.H0 Γ.o0 H1 o1 E) σ H1) : cS X st (toE X.K τ Γ.H0 Γ.o0 H o E) σ H1 :=
  cS_mono h (fun _ _ ⟨δ', o', k, l', q⟩ => ⟨δ', o', k, l.trans l', q⟩) (fun _ _ q => q) (fun _ _ ⟨δ', o', k, l', q⟩ => ⟨δ', o', k, l.trans l', q⟩) fun _ _ ⟨δ', o', k, l', q⟩ => ⟨δ', o', k, l.trans l', q⟩
theorem toE_cSs {H H1 : Hp} {o1 : O} {σ : L2.St} (l : Le H o H1 o1) (h : cSs X sts (toE X.K τ Γ.H0 Γ.o0 H1 o1 E) σ H1) : cSs X sts (toE X.K τ Γ.H0 Γ.o0 H o E) σ H1 :=
  cSs_mono h (fun _ _ ⟨δ', o', k, l', q⟩ => ⟨δ', o', k, l.trans l', q⟩) (fun _ _ q => q) (fun _ _ ⟨δ', o', k, l', q⟩ => ⟨δ', o', k, l.trans l', q⟩) fun _ _ ⟨δ', o', k, l', q⟩ => ⟨δ', o', k, l.trans l', q⟩
/-! ### blocks -/
theorem wss_nil (h : E.nx δ o) : WSs Γ [] δ o E := fun σ H ok => cSs_of pss_nil ⟨δ, o, ok, Le.refl, h⟩
theorem wss_cons (h : WS Γ st δ o { E with nx := fun δ1 o1 => WSs Γ sts δ1 o1 E }) : WSs Γ (st :: sts) δ o E := fun σ H ok => by
  refine cSs_of (pss_cons ps_c pss_c) ?_
  refine cS_mono (h σ H ok) (fun σ1 H1 ⟨δ1, o1, k1, l1, q⟩ => toE_cSs l1 (q σ1 H1 k1)) (fun _ _ q => q) (fun _ _ q => q) fun _ _ q => q
theorem wss_one (h : WS Γ st δ o E) : WSs Γ [st] δ o E := fun σ H ok => cSs_of (pss_one ps_c) (h σ H ok)
theorem WSs.mono {E' : DE} (h : WSs Γ sts δ o E) (kn : ∀ δ o, E.nx δ o → E'.nx δ o) (kr : ∀ d o, E.rt d o → E'.rt d o) (kb : ∀ δ o, E.bk δ o → E'.bk δ o) (kc : ∀ δ o, E.ct δ o → E'.ct δ o) : WSs Γ sts δ o E' := fun σ H ok =>
  cSs_mono (h σ H ok) (fun _ _ ⟨δ', o', k, l', q⟩ => ⟨δ', o', k, l', kn _ _ q⟩) (fun _ _ ⟨d, o', l, w, r, q⟩ => ⟨d, o', l, w, r, kr _ _ q⟩) (fun _ _ ⟨δ', o', k, l', q⟩ => ⟨δ', o', k, l', kb _ _ q⟩) fun _ _ ⟨δ', o', k, l', q⟩ => ⟨δ', o', k, l', kc _ _ q⟩
theorem ws_pass (h : E.nx δ o) : WS Γ (.Pass pos) δ o E := fun σ H ok => cS_of ps_pass ⟨δ, o, ok, Le.refl, h⟩
theorem ws_brk (h : E.bk δ o) : WS Γ (.Break pos) δ o E := fun σ H ok => cS_of ps_break ⟨δ, o, ok, Le.refl, h⟩
theorem ws_cont (h : E.ct δ o) : WS Γ (.Continue pos) δ o E := fun σ H ok => cS_of ps_continue ⟨δ, o, ok, Le.refl, h⟩
theorem ws_doc {y j' pos'} (h : E.nx δ o) : WS Γ (.Expr (.Constant (.str y) j' pos) pos') δ o E := fun σ H ok => cS_of ps_doc ⟨δ, o, ok, Le.refl, h⟩
theorem ws_expr (h : WE Γ e δ o fun _ o1 => E.nx δ o1) (hs : swapsWith e none pos.line X.env = pure false := by rfl) : WS Γ (.Expr e pos) δ o E := fun σ H ok =>
  cS_of (ps_expr pe_c hs) (cE_mono (h σ H ok) fun v H1 ⟨d, o1, w, l, r, q⟩ => ⟨δ, o1, ok.step l w, l, q⟩)
theorem ws_ret (h : WE Γ e δ o E.rt) : WS Γ (.Return (some e) pos) δ o E := fun σ H ok =>
  cS_of (ps_ret pe_c) (cE_mono (h σ H ok) fun v H1 ⟨d, o1, w, l, r, q⟩ => ⟨d, o1, ok.le.trans l, w, r, q⟩)
theorem ws_retN (h : E.rt .non o) : WS Γ (.Return none pos) δ o E := fun σ H ok => cS_of ps_retN ⟨.non, o, ok.le, ok.own, .non, h⟩
theorem ws_if {tt ff : List Stmt} (h : WT Γ c δ o fun b o1 => if b = true then WSs Γ tt δ o1 E else WSs Γ ff δ o1 E) : WS Γ (.If c tt ff pos) δ o E := fun σ H ok =>
  cS_of (ps_if pt_c pss_c pss_c) (cT_mono (h σ H ok) fun b H1 ⟨o1, w, l, q⟩ => by
    cases b with
    | true =>
      rw [if_pos rfl] at q ⊢
      exact toE_cSs l (q σ H1 (ok.step l w))
    | false =>
      rw [if_neg Bool.false_ne_true] at q ⊢
      exact toE_cSs l (q σ H1 (ok.step l w)))
theorem ws_never (h : False) : WS Γ st δ o E := h.elim
/-! ### targets, assignments -/
theorem Okk.set {K : PySem.W.Frag} {H0 H : Hp} {o0 : O} {σ : L2.St} {v : V} {d : D} (ok : Okk K τ H0 o0 σ H δ o) (i : Nat) (r : R K τ H o v d) : Okk K τ H0 o0 (σ.set i (some v)) H (δ.set i (some d)) o := by
  refine ⟨ok.le, ok.own, by rw [List.length_set, List.length_set, ok.len], fun i' d' h => ?_⟩
  by_cases e : i = i'
  · subst e
    by_cases hi : i < δ.length
    · rw [List.getElem?_set_self hi] at h
      cases h
      exact ⟨v, List.getElem?_set_self (by rw [ok.len]; exact hi), r⟩
    · rw [List.getElem?_eq_none (by rw [List.length_set]; omega)] at h
      cases h
  · rw [List.getElem?_set_ne e] at h ⊢
    exact ok.slot i' d' h
theorem wg_name (i : Nat) {d : D} {Ψ : Δ → O → Prop} (h : Ψ (δ.set i (some d)) o) (hi : X.N[i]? = some x := by rfl) (hx : Loc X.env.scope x := by first | exact Or.inl rfl | exact Or.inr rfl)
    (hf : X.fn x = true ∨ X.env.scope.names.lookup x = some .local := by first | exact Or.inl rfl | exact Or.inr rfl) : WG Γ (.Name x pos) d δ o Ψ := fun σ H v ok r =>
  cG_of (pg_name Γ.nd hi hx hf) ⟨_, o, ok.set i r, Le.refl, h⟩
theorem wgs_nil {Ψ : Δ → O → Prop} (h : Ψ δ o) : WGs Γ [] [] δ o Ψ := fun σ H vs ok r => by
  cases r
  exact cGs_of pgs_nil ⟨rfl, δ, o, ok, Le.refl, h⟩
theorem wgs_cons {d : D} {ds : List D} {Ψ : Δ → O → Prop} (h : WG Γ e d δ o fun δ1 o1 => WGs Γ es ds δ1 o1 Ψ) (hs : (assignEach (e :: es) X.env).map (·.2) = assign e X.env :: (assignEach es X.env).map (·.2) := by rfl) : WGs Γ (e :: es) (d :: ds) δ o Ψ := fun σ H vs ok r => by
  cases r with
  | cons r1 r2 =>
    refine cGs_of (pgs_cons pg_c pgs_c hs) ⟨_, _, rfl, ?_⟩
    refine cG_mono (h σ H _ ok r1) fun σ1 H1 ⟨δ1, o1, k1, l1, q⟩ => ?_
    exact cGs_mono (q σ1 H1 _ k1 (r2.mono l1)) fun _ _ ⟨δ2, o2, k2, l2, q2⟩ => ⟨δ2, o2, k2, l1.trans l2, q2⟩
theorem wg_tup {ds : List D} {kk : Nat} {Ψ : Δ → O → Prop} (h : WGs Γ es ds δ o Ψ) (hc : X.calm = true := by rfl) (hn : (assignEach es X.env).length = ds.length := by rfl) (hst : (assignEach es X.env).findIdx? (·.1) = none := by rfl) : WG Γ (.Tuple es kk pos) (.tup ds) δ o Ψ := fun σ H v ok r => by
  cases r with
  | tup ht rs => exact cG_of (pg_tup hc pgs_c rfl hst) ⟨_, _, rfl, ht.to, by rw [rs.length, hn], h σ H _ ok rs⟩
theorem ws_asg {tg : Expr} (h : WE Γ e δ o fun d o1 => WG Γ tg d δ o1 E.nx) (hs : swapsWithSole [tg] e pos.line X.env = pure false := by rfl) (hw : swappedStores [tg] e X.env = pure none := by rfl)
    (h1 : (assignEach [tg] X.env).map (·.2) = [assign tg X.env] := by rfl) : WS Γ (.Assign [tg] e pos) δ o E := fun σ H ok =>
  cS_of (ps_asg pe_c pg_c hs hw h1) (cE_mono (h σ H ok) fun v H1 ⟨d, o1, w, l, r, q⟩ => cG_mono (q σ H1 v (ok.step l w) r) fun _ _ ⟨δ2, o2, k2, l2, q2⟩ => ⟨δ2, o2, k2, l.trans l2, q2⟩)
/-- x = e -/
theorem ws_set (i : Nat) {px : Pos} (h : WE Γ e δ o fun d o1 => E.nx (δ.set i (some d)) o1) (hi : X.N[i]? = some x := by rfl) (hx : Loc X.env.scope x := by first | exact Or.inl rfl | exact Or.inr rfl) (hs : swapsWith e (some (.Name x px)) pos.line X.env = pure false := by rfl)
    (hf : X.fn x = true ∨ X.env.scope.names.lookup x = some .local := by first | exact Or.inl rfl | exact Or.inr rfl) : WS Γ (.Assign [.Name x px] e pos) δ o E := fun σ H ok =>
  cS_of (ps_set Γ.nd hi hx pe_c hs hf) (cE_mono (h σ H ok) fun v H1 ⟨d, o1, w, l, r, q⟩ => ⟨_, o1, (ok.step l w).set i r, l, q⟩)
/-- a, b = e1, e2 -/
theorem ws_par (i i' : Nat) {y z : Str} {px py pt : Pos} {kt k2 pt2} (h : WA Γ [a, b] δ o fun ds o1 => ∃ d1 d2, ds = [d1, d2] ∧ E.nx ((δ.set i (some d1)).set i' (some d2)) o1) (hi : X.N[i]? = some y := by rfl) (hj : X.N[i']? = some z := by rfl) (hij : i ≠ i' := by decide)
    (hx : X.env.scope.names.lookup y = some .local := by rfl) (hy : X.env.scope.names.lookup z = some .local := by rfl) (hc : X.calm = true := by rfl)
    (hw : swappedStores [.Tuple [.Name y px, .Name z py] kt pt] (.Tuple [a, b] k2 pt2) X.env = pure (some [y, z]) := by rfl)
    (hs : swapsWithSole [.Tuple [.Name y px, .Name z py] kt pt] (.Tuple [a, b] k2 pt2) pos.line X.env = pure false := by rfl) : WS Γ (.Assign [.Tuple [.Name y px, .Name z py] kt pt] (.Tuple [a, b] k2 pt2) pos) δ o E := fun σ H ok =>
  cS_of (ps_par hc Γ.nd hi hj hij hx hy pa_c hw hs) (cA_mono (h σ H ok) fun vs H1 ⟨ds, o1, w, l, r, d1, d2, e1, q⟩ => by
    subst e1
    cases r with
    | cons r1 r => cases r with
      | cons r2 r =>
        cases r
        exact ⟨_, _, rfl, _, o1, ((ok.step l w).set i r1).set i' r2, l, q⟩)
theorem ws_par3 (i i' i2 : Nat) {y z u : Str} {px py pz pt : Pos} {kt k2 pt2} (h : WA Γ [a, b, c] δ o fun ds o1 => ∃ d1 d2 d3, ds = [d1, d2, d3] ∧ E.nx (((δ.set i (some d1)).set i' (some d2)).set i2 (some d3)) o1) (hi : X.N[i]? = some y := by rfl) (hj : X.N[i']? = some z := by rfl) (hl : X.N[i2]? = some u := by rfl)
    (hij : i ≠ i' := by decide) (hil : i ≠ i2 := by decide) (hjl : i' ≠ i2 := by decide) (hx : X.env.scope.names.lookup y = some .local := by rfl) (hy : X.env.scope.names.lookup z = some .local := by rfl) (hz : X.env.scope.names.lookup u = some .local := by rfl) (hc : X.calm = true := by rfl)
    (hw : swappedStores [.Tuple [.Name y px, .Name z py, .Name u pz] kt pt] (.Tuple [a, b, c] k2 pt2) X.env = pure (some [y, z, u]) := by rfl)
    (hs : swapsWithSole [.Tuple [.Name y px, .Name z py, .Name u pz] kt pt] (.Tuple [a, b, c] k2 pt2) pos.line X.env = pure false := by rfl) : WS Γ (.Assign [.Tuple [.Name y px, .Name z py, .Name u pz] kt pt] (.Tuple [a, b, c] k2 pt2) pos) δ o E := fun σ H ok =>
  cS_of (ps_par3 hc Γ.nd hi hj hl hij hil hjl hx hy hz pa_c hw hs) (cA_mono (h σ H ok) fun vs H1 ⟨ds, o1, w, l, r, d1, d2, d3, e1, q⟩ => by
    subst e1
    cases r with
    | cons r1 r => cases r with
      | cons r2 r => cases r with
        | cons r3 r =>
          cases r
          exact ⟨_, _, _, rfl, _, o1, (((ok.step l w).set i r1).set i' r2).set i2 r3, l, q⟩)
/-! ### owned objects are written -/
theorem Own.write {K : PySem.W.Frag} {H : Hp} {p : Addr} {u : HO} {y z : OS} (w : Own K τ H o) (h : o p = some z) (new : OR K τ (upd H p u) (updO o p y) p y) : Own K τ (upd H p u) (updO o p y) := fun q x e => by
  by_cases hq : q = p
  · subst hq
    rw [updO_same] at e
    cases e
    exact new
  · rw [updO_ne hq] at e
    have l : Le H o (upd H p u) (updO o p y) := Le.write h
    have := w q x e
    cases x with
    | lst ds => obtain ⟨vs, h1, h2⟩ := this; exact ⟨vs, by rw [upd_ne hq]; exact h1, h2.mono l⟩
    | ins C fs => obtain ⟨dx, gs, h1, h2⟩ := this; exact ⟨dx, gs, by rw [upd_ne hq]; exact h1, h2.mono l⟩
    | dct kvs => obtain ⟨gs, h1, h2⟩ := this; exact ⟨gs, by rw [upd_ne hq]; exact h1, h2.mono l⟩
def putD (f : Str) (d : D) : List (Str × D) → List (Str × D)
  | [] => [(f, d)]
  | (g, x) :: r => if g = f then (g, d) :: r else (g, x) :: putD f d r
theorem Rf.put {K : PySem.W.Frag} {H : Hp} {gs : List (Str × V)} {fs : List (Str × D)} {f : Str} {v : V} {d : D} (r : Rf K τ H o gs fs) (h : R K τ H o v d) : Rf K τ H o (putF f v gs) (putD f d fs) := by
  induction r with
  | nil => exact .cons h .nil
  | @cons q v' d' vs ds hv r ih =>
    show Rf K τ H o (if q = f then (q, v) :: vs else (q, v') :: putF f v vs) (if q = f then (q, d) :: ds else (q, d') :: putD f d ds)
    split
    · exact .cons h r
    · exact .cons hv ih
theorem Rf.length {K : PySem.W.Frag} {H : Hp} {gs : List (Str × V)} {fs : List (Str × D)} (r : Rf K τ H o gs fs) : gs.length = fs.length := by
  induction r with
  | nil => rfl
  | cons h r ih => exact congrArg (· + 1) ih
/-- o.f = e, an owned instance -/
theorem ws_fld {f : Str} {apos : Pos} (h : WE Γ e δ o fun d o1 => WE Γ a δ o1 fun d2 o2 => ∃ q C fs, d2 = .ref q ∧ o2 q = some (.ins C fs) ∧ Cls X.K C ∧ NoAttr X.K C f ∧ fs.length < 1000 ∧ E.nx δ (updO o2 q (.ins C (putD f d fs))))
    (hs : swapsWith e (some (.Attribute a f apos)) pos.line X.env = pure false := by rfl) : WS Γ (.Assign [.Attribute a f apos] e pos) δ o E := fun σ H ok => by
  refine cS_of (ps_fld pe_c pe_c hs) (cE_mono (h σ H ok) fun v H1 ⟨d, o1, w1, l1, r1, h1⟩ => ?_)
  refine cE_mono (h1 σ H1 (ok.step l1 w1)) fun v2 H2 ⟨d2, o2, w2, l2, r2, q, C, fs, e1, e2, c, na, hl, q2⟩ => ?_
  subst e1
  cases r2
  obtain ⟨dx, gs, h3, h4⟩ := w2 _ _ e2
  have l : Le H2 o2 (upd H2 q (.ins C dx (putF f v gs))) (updO o2 q (.ins C (putD f d fs))) := Le.write e2
  refine ⟨q, C, dx, gs, rfl, h3, c, na, by rw [h4.length]; exact hl, δ, _, ((ok.step l1 w1).step l2 w2).step l (w2.write e2 ⟨dx, _, upd_same, ?_⟩), (l1.trans l2).trans l, q2⟩
  exact (h4.put (r1.mono l2)).mono l
theorem Rs.set {K : PySem.W.Frag} {H : Hp} {v : V} {d : D} : ∀ {vs : List V} {ds : List D} (m : Nat), Rs K τ H o vs ds → R K τ H o v d → Rs K τ H o (vs.set m v) (ds.set m d)
  | _, _, _, .nil, _ => .nil
  | _, _, 0, .cons _ r, h => .cons h r
  | _, _, m + 1, .cons h' r, h => .cons h' (Rs.set m r h)
/-- xs[i] = e, an owned list -/
theorem ws_sub {i : Expr} {spos : Pos} (h : WE Γ e δ o fun d o1 => WE Γ a δ o1 fun d2 o2 => WE Γ i δ o2 fun d3 o3 => ∃ q ds n m, d2 = .ref q ∧ d3 = .int n ∧ o3 q = some (.lst ds) ∧ ixN ds.length n = some m ∧ E.nx δ (updO o3 q (.lst (ds.set m d))))
    (ha : ∀ v, assign (.Subscript a i spos) X.env v = (do
      let ov ← holding [v] (eval a X.env)
      let iv ← holding [v, ov] (eval i X.env)
      standAt spos
      holding [v, ov, iv] (setItem ov iv v)
      release [v, ov, iv] []) := by intro _; rfl) (hs : swapsWithSole [.Subscript a i spos] e pos.line X.env = pure false := by rfl) (hw : swappedStores [.Subscript a i spos] e X.env = pure none := by rfl)
    (h1 : (assignEach [.Subscript a i spos] X.env).map (·.2) = [assign (.Subscript a i spos) X.env] := by rfl) : WS Γ (.Assign [.Subscript a i spos] e pos) δ o E := fun σ H ok => by
  refine cS_of (ps_asg pe_c (pg_sub pe_c pe_c set_list ha) hs hw h1) (cE_mono (h σ H ok) fun v H1 ⟨d, o1, w1, l1, r1, h1⟩ => ?_)
  have ok1 := ok.step l1 w1
  refine cE_mono (h1 σ H1 ok1) fun v2 H2 ⟨d2, o2, w2, l2, r2, h2⟩ => ?_
  have ok2 := ok1.step l2 w2
  refine cE_mono (h2 σ H2 ok2) fun v3 H3 ⟨d3, o3, w3, l3, r3, q, ds, n', m, e1, e2, e3, e4, q2⟩ => ?_
  subst e1 e2
  cases r2
  cases r3
  obtain ⟨vs, h3, h4⟩ := w3 _ _ e3
  have l : Le H3 o3 (upd H3 q (.lst (vs.set m v))) (updO o3 q (.lst (ds.set m d))) := Le.write e3
  refine ⟨q, vs, n', m, rfl, rfl, h3, by rw [h4.length]; exact e4, δ, _, (ok2.step l3 w3).step l (w3.write e3 ⟨_, upd_same, ?_⟩), ((l1.trans l2).trans l3).trans l, q2⟩
  exact (h4.set m ((r1.mono l2).mono l3)).mono l
end
end DL

set_option Elab.async false
set_option linter.all false
set_option maxRecDepth 100000
set_option maxHeartbeats 2000000
/-! DL7: loops, ownership, new instances, built-in functions. -/
namespace DL
open PySem PySem.Spec PyProof.Rows L2
section
variable {X : Cx} {τ : Tx} {k j n : Nat} {Ξ : DX → Δ → O → Prop} {Γ : Gm X τ k Ξ} {e a b c : Expr} {es : List Expr} {δ : Δ} {o : O} {pos p apos : Pos} {Φ : D → O → Prop} {S : DSp} {g : Addr} {x : Str} {st : Stmt} {sts : List Stmt} {E : DE}
/-! ### for -/
/-- the loop over these items -/
def forD (Γ : Gm X τ k Ξ) (tg : Expr) (body : List Stmt) (E : DE) : List D → Δ → O → Prop
  | [], δ, o => E.nx δ o
  | d :: ds, δ, o => WG Γ tg d δ o fun δ1 o1 => WSs Γ body δ1 o1 { nx := forD Γ tg body E ds, rt := E.rt, bk := E.nx, ct := forD Γ tg body E ds }
/-- .. by an invariant -/
theorem forD_inv {tg : Expr} {body : List Stmt} (I : Nat → Δ → O → Prop) : ∀ (ds : List D) (i : Nat) (δ : Δ) (o : O), I i δ o →
    (∀ m d δ' o', ds[m]? = some d → I (i + m) δ' o' → WG Γ tg d δ' o' fun δ1 o1 => WSs Γ body δ1 o1 { nx := I (i + m + 1), rt := E.rt, bk := E.nx, ct := I (i + m + 1) }) →
    (∀ δ' o', I (i + ds.length) δ' o' → E.nx δ' o') → forD Γ tg body E ds δ o
  | [], i, δ, o, h, _, hd => hd δ o h
  | d :: ds, i, δ, o, h, hs, hd => fun σ H v ok r => by
    refine cG_mono (hs 0 d δ o rfl h σ H v ok r) fun σ' H' ⟨δ1, o1, k1, l1, q⟩ => ⟨δ1, o1, k1, l1, ?_⟩
    have rec_ : ∀ δ2 o2, I (i + 0 + 1) δ2 o2 → forD Γ tg body E ds δ2 o2 := fun δ2 o2 h2 => forD_inv I ds (i + 1) δ2 o2 h2 (fun m d' δ' o' e h' => by
      have := hs (m + 1) d' δ' o' (by simpa using e) (by rw [show i + (m + 1) = i + 1 + m by omega]; exact h')
      rw [show i + (m + 1) = i + 1 + m by omega] at this
      exact this) (fun δ' o' h' => hd δ' o' (by rw [List.length_cons, show i + (ds.length + 1) = i + 1 + ds.length by omega]; exact h'))
    exact q.mono rec_ (fun _ _ q => q) (fun _ _ q => q) rec_
theorem forD_inv0 {tg : Expr} {body : List Stmt} {ds : List D} (I : Nat → Δ → O → Prop) (h : I 0 δ o)
    (hs : ∀ m d δ' o', ds[m]? = some d → I m δ' o' → WG Γ tg d δ' o' fun δ1 o1 => WSs Γ body δ1 o1 { nx := I (m + 1), rt := E.rt, bk := E.nx, ct := I (m + 1) })
    (hd : ∀ δ' o', I ds.length δ' o' → E.nx δ' o') : forD Γ tg body E ds δ o :=
  forD_inv I ds 0 δ o h (fun m d δ' o' e h' => by rw [Nat.zero_add] at h' ⊢; exact hs m d δ' o' e h') (fun δ' o' h' => hd δ' o' (by rw [Nat.zero_add] at h'; exact h'))
def FW (Γ : Gm X τ k Ξ) (tg : Expr) (body : List Stmt) (E : DE) (ds : List D) (H1 : Hp) (o1 : O) (i : Nat) (σ : L2.St) (H : Hp) : Prop := ∃ δ o, Okk X.K τ Γ.H0 Γ.o0 σ H δ o ∧ Le H1 o1 H o ∧ forD Γ tg body E (ds.drop i) δ o
theorem fw_turn {tg : Expr} {body : List Stmt} {ds : List D} {H H1 : Hp} {o1 : O} {i : Nat} {σ : L2.St} {Hs : Hp} {v : V} {d : D} (l0 : Le Hs o H1 o1) (hw : FW Γ tg body E ds H1 o1 i σ H) (e : ds[i]? = some d)
    (r : R X.K τ H1 o1 v d) : cG X tg v σ H fun σ2 H2 => cSs X body { toE X.K τ Γ.H0 Γ.o0 Hs o E with nx := FW Γ tg body E ds H1 o1 (i + 1), ct := FW Γ tg body E ds H1 o1 (i + 1), bk := (toE X.K τ Γ.H0 Γ.o0 Hs o E).nx } σ2 H2 := by
  obtain ⟨δ', o', k', l', q⟩ := hw
  rw [List.drop_eq_getElem_cons (List.getElem?_eq_some_iff.mp e).1] at q
  have hd : ds[i]'(List.getElem?_eq_some_iff.mp e).1 = d := (List.getElem?_eq_some_iff.mp e).2
  rw [hd] at q
  refine cG_mono (q σ H v k' (r.mono l')) fun σ2 H2 ⟨δ2, o2, k2, l2, q2⟩ => ?_
  refine cSs_mono (q2 σ2 H2 k2) (fun σ3 H3 ⟨δ3, o3, k3, l3, q3⟩ => ⟨δ3, o3, k3, (l'.trans l2).trans l3, q3⟩) (fun _ _ q => q) (fun σ3 H3 ⟨δ3, o3, k3, l3, q3⟩ => ⟨δ3, o3, k3, ((l0.trans l').trans l2).trans l3, q3⟩) fun σ3 H3 ⟨δ3, o3, k3, l3, q3⟩ => ⟨δ3, o3, k3, (l'.trans l2).trans l3, q3⟩
theorem fw_end {tg : Expr} {body : List Stmt} {ds : List D} {H H1 : Hp} {o1 : O} {σ : L2.St} {Hs : Hp} (l0 : Le Hs o H1 o1) (hw : FW Γ tg body E ds H1 o1 ds.length σ H) : (toE X.K τ Γ.H0 Γ.o0 Hs o E).nx σ H := by
  obtain ⟨δ', o', k', l', q⟩ := hw
  rw [List.drop_length] at q
  exact ⟨δ', o', k', l0.trans l', q⟩
/-- over a list that is not written any more -/
theorem ws_forL {tg iter : Expr} {body : List Stmt} (h : WE Γ iter δ o fun d o1 => ∃ ds, d = .lst ds ∧ forD Γ tg body E ds δ o1) (hc : X.calm = true := by rfl) (hs : ∀ x, foldedSetIterable iter X.env x = pure x := by intro _; rfl) : WS Γ (.For tg iter body [] pos) δ o E := fun σ H ok => by
  refine cS_of (ps_for Γ.po hc (pi_list pe_c) pg_c pss_c hs) ?_
  refine cE_mono (h σ H ok) fun v H1 ⟨d, o1, w, l, r, ds, e1, q⟩ => ?_
  subst e1
  cases r with
  | @lst a vs _ ha na rs =>
    refine ⟨a, rfl, ⟨vs, .of ha⟩, for_list (K := X.K) (a := a) (xs := vs) (FW Γ tg body E ds H1 o1) ⟨δ, o1, ok.step l w, Le.refl, q⟩ (fun i σ' H' _ ⟨_, _, _, l', _⟩ => .of (l' _ _ na ha).1) (fun i y σ' H' ey hw => ?_) (fun σ' H' hw => ?_)⟩
    · obtain ⟨d, ed, rd⟩ := rs.of_get ey
      exact fw_turn l hw ed rd
    · rw [rs.length] at hw
      exact fw_end l hw
theorem ws_forT {tg iter : Expr} {body : List Stmt} (h : WE Γ iter δ o fun d o1 => ∃ ds, d = .tup ds ∧ forD Γ tg body E ds δ o1) (hc : X.calm = true := by rfl) (hs : ∀ x, foldedSetIterable iter X.env x = pure x := by intro _; rfl) : WS Γ (.For tg iter body [] pos) δ o E := fun σ H ok => by
  refine cS_of (ps_for Γ.po hc (pi_tup pe_c) pg_c pss_c hs) ?_
  refine cE_mono (h σ H ok) fun v H1 ⟨d, o1, w, l, r, ds, e1, q⟩ => ?_
  subst e1
  cases r with
  | @tup a vs _ ha rs =>
    refine ⟨a, rfl, ⟨vs, ha.to⟩, for_tup (K := X.K) (a := a) (xs := vs) (FW Γ tg body E ds H1 o1) ⟨δ, o1, ok.step l w, Le.refl, q⟩ (fun i σ' H' _ ⟨_, _, _, l', _⟩ => (ha.mono l').to) (fun i y σ' H' ey hw => ?_) (fun σ' H' hw => ?_)⟩
    · obtain ⟨d, ed, rd⟩ := rs.of_get ey
      exact fw_turn l hw ed rd
    · rw [rs.length] at hw
      exact fw_end l hw
/-- over the script -/
theorem ws_forS {tg iter : Expr} {body : List Stmt} (h : WE Γ iter δ o fun d o1 => ∃ ns : List Int, d = .scr ns ∧ forD Γ tg body E (ns.map D.int) δ o1) (hc : X.calm = true := by rfl) (hs : ∀ x, foldedSetIterable iter X.env x = pure x := by intro _; rfl) : WS Γ (.For tg iter body [] pos) δ o E := fun σ H ok => by
  refine cS_of (ps_for Γ.po hc (pi_list pe_c) pg_c pss_c hs) ?_
  refine cE_mono (h σ H ok) fun v H1 ⟨d, o1, w, l, r, ns, e1, q⟩ => ?_
  subst e1
  cases r with
  | @scr a _ ha =>
    refine ⟨a, rfl, ⟨_, ha.to⟩, for_list (K := X.K) (a := a) (xs := ns.map V.int) (FW Γ tg body E (ns.map D.int) H1 o1) ⟨δ, o1, ok.step l w, Le.refl, q⟩ (fun i σ' H' _ ⟨_, _, _, l', _⟩ => (ha.mono l').to) (fun i y σ' H' ey hw => ?_) (fun σ' H' hw => ?_)⟩
    · rw [List.getElem?_map] at ey
      cases e : ns[i]? with
      | none => rw [e] at ey; cases ey
      | some z =>
        rw [e] at ey
        cases ey
        exact fw_turn l hw (d := .int z) (by rw [List.getElem?_map, e] <;> rfl) (.int z)
    · rw [List.length_map] at hw
      have : (ns.map D.int).length = ns.length := List.length_map _
      exact fw_end l (by rw [this]; exact hw)
def rangeD (lo : Int) (n : Nat) : List D := (List.range n).map fun (i : Nat) => .int (lo + (i : Int))
theorem rangeD_get {lo : Int} {n i : Nat} (h : i < n) : (rangeD lo n)[i]? = some (.int (lo + (i : Int))) := by
  unfold rangeD
  rw [List.getElem?_map, List.getElem?_range h] <;> rfl
theorem rangeD_length {lo : Int} {n : Nat} : (rangeD lo n).length = n := by unfold rangeD; rw [List.length_map, List.length_range]
theorem rangeD_of {lo : Int} {n i : Nat} {d : D} (h : (rangeD lo n)[i]? = some d) : i < n ∧ d = .int (lo + (i : Int)) := by
  have hi : i < n := by
    have := (List.getElem?_eq_some_iff.mp h).1
    rw [rangeD_length] at this
    exact this
  rw [rangeD_get hi] at h
  cases h
  exact ⟨hi, rfl⟩
theorem ws_forR1 {tg : Expr} {body : List Stmt} {rp cp : Pos} (hm : X.mg "range" = none) (h : WA Γ [a] δ o fun ds o1 => ∃ i : Int, ds = [.int i] ∧ -(2 ^ 62) ≤ i ∧ i < 2 ^ 62 ∧ forD Γ tg body E (rangeD 0 i.toNat) δ o1) (hg : Gl X "range" := by rfl) (hc : X.calm = true := by rfl)
    (hst : starEach [a] X.env = [(false, eval a X.env)] := by rfl) (hs : ∀ x, foldedSetIterable (.Call (.Name "range" rp) [a] [] cp) X.env x = pure x := by intro _; rfl) : WS Γ (.For tg (.Call (.Name "range" rp) [a] [] cp) body [] pos) δ o E := fun σ H ok => by
  refine cS_of (ps_for Γ.po hc (pi_range1 hg hm pa_c hst) pg_c pss_c hs) ?_
  refine cA_mono (h σ H ok) fun vs H1 ⟨ds, o1, w, l, r, i, e1, b1, b2, q⟩ => ?_
  subst e1
  cases r with
  | cons r1 r =>
    cases r
    cases r1
    refine ⟨i, rfl, b1, b2, for_range (lo := 0) (n := i.toNat) (FW Γ tg body E (rangeD 0 i.toNat) H1 o1) ⟨δ, o1, ok.step l w, Le.refl, q⟩ (fun m σ' H' hm hw => fw_turn l hw (rangeD_get hm) (.int _)) (fun σ' H' hw => fw_end l (by rw [rangeD_length]; exact hw))⟩
theorem ws_forR2 {tg : Expr} {body : List Stmt} {rp cp : Pos} (hm : X.mg "range" = none) (h : WA Γ [a, b] δ o fun ds o1 => ∃ i i' : Int, ds = [.int i, .int i'] ∧ (-(2 ^ 62) ≤ i ∧ i < 2 ^ 62 ∧ -(2 ^ 62) ≤ i' ∧ i' < 2 ^ 62) ∧ forD Γ tg body E (rangeD i (i' - i).toNat) δ o1) (hg : Gl X "range" := by rfl) (hc : X.calm = true := by rfl)
    (hst : starEach [a, b] X.env = [(false, eval a X.env), (false, eval b X.env)] := by rfl) (hst2 : starEach [b] X.env = [(false, eval b X.env)] := by rfl) (hs : ∀ x, foldedSetIterable (.Call (.Name "range" rp) [a, b] [] cp) X.env x = pure x := by intro _; rfl) : WS Γ (.For tg (.Call (.Name "range" rp) [a, b] [] cp) body [] pos) δ o E := fun σ H ok => by
  refine cS_of (ps_for Γ.po hc (pi_range2 hg hm pa_c hst hst2) pg_c pss_c hs) ?_
  refine cA_mono (h σ H ok) fun vs H1 ⟨ds, o1, w, l, r, i, i', e1, b1, q⟩ => ?_
  subst e1
  cases r with
  | cons r1 r => cases r with
    | cons r2 r =>
      cases r
      cases r1
      cases r2
      exact ⟨i, i', rfl, b1, for_range (lo := i) (n := (i' - i).toNat) (FW Γ tg body E (rangeD i (i' - i).toNat) H1 o1) ⟨δ, o1, ok.step l w, Le.refl, q⟩ (fun m σ' H' hm hw => fw_turn l hw (rangeD_get hm) (.int _)) (fun σ' H' hw => fw_end l (by rw [rangeD_length]; exact hw))⟩
/-! ### while -/
theorem ws_while {body : List Stmt} (I : Δ → O → Prop) (μ : Δ → O → Nat) (h0 : I δ o)
    (h : ∀ δ' o', I δ' o' → WT Γ c δ' o' fun b o1 => if b = true then WSs Γ body δ' o1 { nx := fun δ2 o2 => I δ2 o2 ∧ μ δ2 o2 < μ δ' o', rt := E.rt, bk := E.nx, ct := fun δ2 o2 => I δ2 o2 ∧ μ δ2 o2 < μ δ' o' } else E.nx δ' o1) : WS Γ (.While c body [] pos) δ o E := fun σ H ok => by
  refine cS_of (ps_while Γ.po pt_c pss_c) ⟨fun m σ' H' => ∃ δ' o', Okk X.K τ Γ.H0 Γ.o0 σ' H' δ' o' ∧ Le H o H' o' ∧ I δ' o' ∧ μ δ' o' = m, ⟨_, δ, o, ok, Le.refl, h0, rfl⟩, fun m σ' H' ⟨δ', o', k', l', i', em⟩ => ?_⟩
  refine cT_mono (h δ' o' i' σ' H' k') fun b H1 ⟨o1, w1, l1, q⟩ => ?_
  have k1 := k'.step l1 w1
  cases b with
  | true =>
    rw [if_pos rfl] at q ⊢
    refine ⟨fun σ2 H2 => ∃ δ2 o2, Okk X.K τ Γ.H0 Γ.o0 σ2 H2 δ2 o2 ∧ Le H o H2 o2 ∧ I δ2 o2 ∧ μ δ2 o2 < m, fun σ2 H2 ⟨δ2, o2, k2, l2, i2, hm⟩ => ⟨_, hm, δ2, o2, k2, l2, i2, rfl⟩, ?_⟩
    exact cSs_mono (q σ' H1 k1) (fun σ2 H2 ⟨δ2, o2, k2, l2, i2, hm⟩ => ⟨δ2, o2, k2, (l'.trans l1).trans l2, i2, em ▸ hm⟩) (fun _ _ q => q) (fun σ2 H2 ⟨δ2, o2, k2, l2, q2⟩ => ⟨δ2, o2, k2, (l'.trans l1).trans l2, q2⟩) fun σ2 H2 ⟨δ2, o2, k2, l2, i2, hm⟩ => ⟨δ2, o2, k2, (l'.trans l1).trans l2, i2, em ▸ hm⟩
  | false =>
    rw [if_neg Bool.false_ne_true] at q ⊢
    exact ⟨δ', o1, k1, l'.trans l1, q⟩
/-! ### ownership -/
/-- less is owned -/
theorem Own.less {K : PySem.W.Frag} {H : Hp} {o' : O} (w : Own K τ H o) (h : ∀ a y, o' a = some y → o a = some y) : Own K τ H o' ∧ Le H o H o' := by
  have l : Le H o H o' := fun a y n e => ⟨e, by
    cases q : o' a with
    | none => rfl
    | some z => rw [h a z q] at n; cases n⟩
  refine ⟨fun a y e => ?_, l⟩
  have := w a y (h a y e)
  cases y with
  | lst ds => obtain ⟨vs, h1, h2⟩ := this; exact ⟨vs, h1, h2.mono l⟩
  | ins C fs => obtain ⟨dx, gs, h1, h2⟩ := this; exact ⟨dx, gs, h1, h2.mono l⟩
  | dct kvs => obtain ⟨gs, h1, h2⟩ := this; exact ⟨gs, h1, h2.mono l⟩
theorem updO_less {q : Addr} {y : OS} (h : o q = none) : ∀ a z, o a = some z → updO o q y a = some z := fun a z e => by
  rw [updO_ne (fun w => by rw [w, h] at e; cases e)]
  exact e
/-- the list at q, in slot i, is written no more -/
theorem wss_freeze (i : Nat) {q : Addr} {ds : List D} (hq : o q = none) (hi : δ[i]? = some (some (.ref q))) (h : WSs Γ sts (δ.set i (some (.lst ds))) o E) : WSs Γ sts δ (updO o q (.lst ds)) E := fun σ H ok => by
  obtain ⟨w, l⟩ := ok.own.less (updO_less hq)
  obtain ⟨vs, h1, h2⟩ := ok.own q _ updO_same
  have k1 : Okk X.K τ Γ.H0 Γ.o0 σ H (δ.set i (some (.lst ds))) o := by
    refine ⟨ok.le.trans l, w, by rw [List.length_set, ok.len], fun i' d e => ?_⟩
    by_cases ei : i = i'
    · subst ei
      have hi' : i < δ.length := (List.getElem?_eq_some_iff.mp hi).1
      rw [List.getElem?_set_self hi'] at e
      cases e
      obtain ⟨v, e1, r⟩ := ok.slot i _ hi
      cases r
      exact ⟨_, e1, .lst h1 hq (h2.mono l)⟩
    · rw [List.getElem?_set_ne ei] at e
      obtain ⟨v, e1, r⟩ := ok.slot i' d e
      exact ⟨v, e1, r.mono l⟩
  exact toE_cSs l (h σ H k1)
/-- .. forgotten -/
theorem wss_less {o' : O} (hl : ∀ a y, o' a = some y → o a = some y) (h : WSs Γ sts δ o' E) : WSs Γ sts δ o E := fun σ H ok => by
  obtain ⟨w, l⟩ := ok.own.less hl
  exact toE_cSs l (h σ H (ok.step l w))
/-- a new list, owned -/
theorem we_lstO (h : WA Γ es δ o fun ds o1 => ds.length ≤ sizeLine ∧ ∀ q, o1 q = none → Φ (.ref q) (updO o1 q (.lst ds))) : WE Γ (.List es pos) δ o Φ := fun σ H ok =>
  cE_of (pe_lst pa_c) (cA_mono (h σ H ok) fun xs H1 ⟨ds, o1, w, l, r, h1, h2⟩ => ⟨by rw [r.length]; exact h1, fun p hp => by
    have hq := w.free hp
    have l2 : Le H1 o1 (upd H1 p (.lst xs)) (updO o1 p (.lst ds)) := Le.newO hp
    refine ⟨_, _, fun a y e => ?_, l.trans l2, .ref p, h2 p hq⟩
    by_cases ha : a = p
    · subst ha
      rw [updO_same] at e
      cases e
      exact ⟨xs, upd_same, r.mono l2⟩
    · rw [updO_ne ha] at e
      have := w a y e
      cases y with
      | lst ds => obtain ⟨vs, h1, h2⟩ := this; exact ⟨vs, by rw [upd_ne ha]; exact h1, h2.mono l2⟩
      | ins C fs => obtain ⟨dx, gs, h1, h2⟩ := this; exact ⟨dx, gs, by rw [upd_ne ha]; exact h1, h2.mono l2⟩
      | dct kvs => obtain ⟨gs, h1, h2⟩ := this; exact ⟨gs, by rw [upd_ne ha]; exact h1, h2.mono l2⟩⟩)
/-! ### built-in functions -/
theorem we_callB {id : String} {r : List V → Hp → VK → Prop} {T : List D → O → (D → O → Prop) → Prop} (hc : CallR X (.builtin id) r)
    (hs : ∀ H o vs ds Φ (Q : VK), Rs X.K τ H o vs ds → Own X.K τ H o → T ds o Φ → (∀ v H', PostE X.K τ H o Φ v H' → Q v H') → r vs H Q) (hm : X.mg x = none) (h : WA Γ (e :: es) δ o fun ds o1 => T ds o1 Φ)
    (hg : Gl X x := by rfl) (hv : bootBuiltins x = some (.builtin id) := by decide +kernel) (hn : x ≠ "__name__" := by decide) (hdb : (x == ("__debug__" : Str)) = false := by decide)
    (he : starEach (e :: es) X.env = (false, eval e X.env) :: starEach es X.env := by rfl) (hpl : (backTo pos (starEach es X.env)).any (·.1) = false := by rfl) : WE Γ (.Call (.Name x p) (e :: es) [] pos) δ o Φ := fun σ H ok =>
  cE_of (pe_callB hc hg hm hv pa_c hn hdb he hpl) (cA_mono (h σ H ok) fun vs H1 ⟨ds, o1, w, l, rs, q⟩ => hs H1 o1 vs ds Φ _ rs w q fun v H' p => p.le l)
theorem we_callTy {id : String} {r : List V → Hp → VK → Prop} {T : List D → O → (D → O → Prop) → Prop} (hc : CallR X (.type id) r)
    (hs : ∀ H o vs ds Φ (Q : VK), Rs X.K τ H o vs ds → Own X.K τ H o → T ds o Φ → (∀ v H', PostE X.K τ H o Φ v H' → Q v H') → r vs H Q) (hm : X.mg x = none) (h : WA Γ (e :: es) δ o fun ds o1 => T ds o1 Φ)
    (hg : Gl X x := by rfl) (hv : bootBuiltins x = some (.type id) := by decide +kernel) (hn : x ≠ "__name__" := by decide) (hdb : (x == ("__debug__" : Str)) = false := by decide)
    (he : starEach (e :: es) X.env = (false, eval e X.env) :: starEach es X.env := by rfl) (hpl : (backTo pos (starEach es X.env)).any (·.1) = false := by rfl) : WE Γ (.Call (.Name x p) (e :: es) [] pos) δ o Φ := fun σ H ok =>
  cE_of (pe_callTy hc hg hm hv pa_c hn hdb he hpl) (cA_mono (h σ H ok) fun vs H1 ⟨ds, o1, w, l, rs, q⟩ => hs H1 o1 vs ds Φ _ rs w q fun v H' p => p.le l)
/-- int(n), int(b) -/
def intS : List D → O → (D → O → Prop) → Prop
  | [.int i], o, Φ => Φ (.int i) o
  | [.bl b], o, Φ => Φ (.int (if b then 1 else 0)) o
  | _, _, _ => False
theorem we_int1 (hm : X.mg "int" = none) (h : WA Γ (e :: es) δ o fun ds o1 => intS ds o1 Φ) (hg : Gl X "int" := by rfl) (he : starEach (e :: es) X.env = (false, eval e X.env) :: starEach es X.env := by rfl) (hpl : (backTo pos (starEach es X.env)).any (·.1) = false := by rfl) : WE Γ (.Call (.Name "int" p) (e :: es) [] pos) δ o Φ :=
  we_callTy call_int1 (fun H o vs ds Φ Q r w t k => by
    match ds, r, t with
    | [.int i], .cons r1 .nil, t => cases r1; exact .inl ⟨i, rfl, k _ _ (.here w (.int i) t)⟩
    | [.bl b], .cons r1 .nil, t => cases r1; exact .inr ⟨b, rfl, k _ _ (.here w (.int _) t)⟩) hm h hg (he := he) (hpl := hpl)
theorem intS_i {i : Int} (h : Φ (.int i) o) : intS [.int i] o Φ := h
theorem intS_b {b : Bool} (h : Φ (.int (if b then 1 else 0)) o) : intS [.bl b] o Φ := h
def lenS : List D → O → (D → O → Prop) → Prop
  | [.lst ds], o, Φ => Φ (.int ds.length) o
  | [.tup ds], o, Φ => Φ (.int ds.length) o
  | [.scr ns], o, Φ => Φ (.int ns.length) o
  | [.str z], o, Φ => z.length ≤ sizeLine ∧ Φ (.int z.length) o
  | [.ref q], o, Φ => ∃ ds, o q = some (.lst ds) ∧ Φ (.int ds.length) o
  | _, _, _ => False
theorem we_len (hm : X.mg "len" = none) (h : WA Γ (e :: es) δ o fun ds o1 => lenS ds o1 Φ) (hg : Gl X "len" := by rfl) (he : starEach (e :: es) X.env = (false, eval e X.env) :: starEach es X.env := by rfl) (hpl : (backTo pos (starEach es X.env)).any (·.1) = false := by rfl) : WE Γ (.Call (.Name "len" p) (e :: es) [] pos) δ o Φ :=
  we_callB call_len (fun H o vs ds Φ Q r w t k => by
    match ds, r, t with
    | [.lst ds], .cons r1 .nil, t => cases r1 with | lst h n rs => exact ⟨_, _, rfl, .inl ⟨_, .of h, rs.length.symm⟩, k _ _ (.here w (.int _) t)⟩
    | [.tup ds], .cons r1 .nil, t => cases r1 with | tup h rs => exact ⟨_, _, rfl, .inr ⟨_, h.to, rs.length.symm⟩, k _ _ (.here w (.int _) t)⟩
    | [.scr ns], .cons r1 .nil, t => cases r1 with | scr h => exact ⟨_, _, rfl, .inl ⟨_, h.to, (List.length_map _).symm⟩, k _ _ (.here w (.int _) t)⟩
    | [.str z], .cons r1 .nil, t => cases r1; exact ⟨_, _, rfl, ⟨t.1, rfl⟩, k _ _ (.here w (.int _) t.2)⟩
    | [.ref q], .cons r1 .nil, t =>
      cases r1
      obtain ⟨ds, e1, t⟩ := t
      obtain ⟨vs, h1, h2⟩ := w _ _ e1
      exact ⟨_, _, rfl, .inl ⟨_, .of h1, h2.length.symm⟩, k _ _ (.here w (.int _) t)⟩) hm h hg (he := he) (hpl := hpl)
def absS : List D → O → (D → O → Prop) → Prop
  | [.int i], o, Φ => Φ (.int (if i < 0 then -i else i)) o
  | _, _, _ => False
theorem we_abs (hm : X.mg "abs" = none) (h : WA Γ (e :: es) δ o fun ds o1 => absS ds o1 Φ) (hg : Gl X "abs" := by rfl) (he : starEach (e :: es) X.env = (false, eval e X.env) :: starEach es X.env := by rfl) (hpl : (backTo pos (starEach es X.env)).any (·.1) = false := by rfl) : WE Γ (.Call (.Name "abs" p) (e :: es) [] pos) δ o Φ :=
  we_callB call_abs (fun H o vs ds Φ Q r w t k => by
    match ds, r, t with
    | [.int i], .cons r1 .nil, t => cases r1; exact ⟨i, rfl, k _ _ (.here w (.int _) t)⟩) hm h hg (he := he) (hpl := hpl)
def max2S (f : Int → Int → Int) : List D → O → (D → O → Prop) → Prop
  | [.int i, .int j], o, Φ => Φ (.int (f i j)) o
  | _, _, _ => False
theorem max2S_i {f : Int → Int → Int} {i j : Int} (h : Φ (.int (f i j)) o) : max2S f [.int i, .int j] o Φ := h
theorem we_max2 (hm : X.mg "max" = none) (h : WA Γ (e :: es) δ o fun ds o1 => max2S (fun i j => if j > i then j else i) ds o1 Φ) (hc : X.calm = true := by rfl) (hg : Gl X "max" := by rfl) (he : starEach (e :: es) X.env = (false, eval e X.env) :: starEach es X.env := by rfl) (hpl : (backTo pos (starEach es X.env)).any (·.1) = false := by rfl) : WE Γ (.Call (.Name "max" p) (e :: es) [] pos) δ o Φ :=
  we_callB (call_max2 hc) (fun H o vs ds Φ Q r w t k => by
    match ds, r, t with
    | [.int i, .int j], .cons r1 (.cons r2 .nil), t => cases r1; cases r2; exact ⟨i, j, rfl, k _ _ (.here w (.int _) t)⟩) hm h hg (he := he) (hpl := hpl)
theorem we_min2 (hm : X.mg "min" = none) (h : WA Γ (e :: es) δ o fun ds o1 => max2S (fun i j => if j < i then j else i) ds o1 Φ) (hc : X.calm = true := by rfl) (hg : Gl X "min" := by rfl) (he : starEach (e :: es) X.env = (false, eval e X.env) :: starEach es X.env := by rfl) (hpl : (backTo pos (starEach es X.env)).any (·.1) = false := by rfl) : WE Γ (.Call (.Name "min" p) (e :: es) [] pos) δ o Φ :=
  we_callB (call_min2 hc) (fun H o vs ds Φ Q r w t k => by
    match ds, r, t with
    | [.int i, .int j], .cons r1 (.cons r2 .nil), t => cases r1; cases r2; exact ⟨i, j, rfl, k _ _ (.here w (.int _) t)⟩) hm h hg (he := he) (hpl := hpl)
end
end DL

set_option Elab.async false
set_option linter.all false
set_option maxRecDepth 100000
set_option maxHeartbeats 2000000
/-! DL8: new instances; classmethods. -/
namespace DL
open PySem PySem.Spec PyProof.Rows L2
def begsD : Int → List (Str × Int) → List (Key × D)
  | _, [] => []
  | b, (n, l) :: r => (.inr n, .int b) :: begsD (b + l) r
/-- an owned instance that is given up becomes a datum -/
inductive Seal (τ : Tx) : Addr → List (Str × D) → D → Prop where
  | deck (c g : Int) : Seal τ τ.deck [("first", .int c), ("more", .int g)] (.deck c g)
  | tape (ss : List (Str × Int)) : Seal τ τ.tape [("listed", .tup (ss.map songD)), ("begins", .dct (begsD 0 ss)), ("total", .int (total ss))] (.tape ss)
theorem fDeck_eq (c g : Int) : fDeck c g = [(("first" : Str), V.int c), (("more" : Str), V.int g)] := by
  unfold fDeck
  show (if ("first" : Str) = "more" then _ else _) = _
  rw [if_neg kfm] <;> rfl
theorem fTape_eq (t b : Addr) (n : Int) : fTape t b n = [(("listed" : Str), V.ref t), (("begins" : Str), V.ref b), (("total" : Str), V.int n)] := by
  have e : putF "begins" (V.ref b) (putF "listed" (V.ref t) []) = [(("listed" : Str), V.ref t), (("begins" : Str), V.ref b)] := by
    show (if ("listed" : Str) = "begins" then _ else _) = _
    rw [if_neg klb] <;> rfl
  unfold fTape
  rw [e]
  show (if ("listed" : Str) = "total" then _ else (("listed" : Str), V.ref t) :: (if ("begins" : Str) = "total" then _ else _)) = _
  rw [if_neg klt, if_neg kbt] <;> rfl
section
variable {K : PySem.W.Frag} {τ : Tx} {H : Hp} {o : O}
theorem begs_of : ∀ {b : Int} {ss : List (Str × Int)} {kvs : List (Key × V)}, Rk K τ H o kvs (begsD b ss) → kvs = begsV b ss
  | _, [], _, .nil => rfl
  | b, (n, l) :: r, _, .cons h t => by cases h; rw [begs_of t]; rfl
theorem Seal.ok {C : Addr} {fs : List (Str × D)} {d : D} {q : Addr} {o3 : O} (s : Seal τ C fs d) (w : OR K τ H o q (.ins C fs)) (l : Le H o H o3) (hq : o3 q = none) : R K τ H o3 (.ref q) d := by
  cases s with
  | deck c g =>
    obtain ⟨dx, gs, h1, h2⟩ := w
    cases h2 with
    | cons a1 h2 => cases h2 with
      | cons a2 h2 =>
        cases h2
        cases a1
        cases a2
        exact .deck (by rw [fDeck_eq]; exact h1) hq
  | tape ss =>
    obtain ⟨dx, gs, h1, h2⟩ := w
    cases h2 with
    | cons a1 h2 => cases h2 with
      | cons a2 h2 => cases h2 with
        | cons a3 h2 =>
          cases h2
          cases a1 with
          | tup ht rt =>
            cases a2 with
            | dct hd nd rd =>
              cases a3
              rw [begs_of rd] at hd
              exact .tape (by rw [fTape_eq]; exact h1) hq ((R.tup ht rt).mono l) (l _ _ nd hd).1 (l _ _ nd hd).2
end
section
variable {X : Cx} {τ : Tx} {k j n : Nat} {Ξ : DX → Δ → O → Prop} {Γ : Gm X τ k Ξ} {e a b c : Expr} {es : List Expr} {δ : Δ} {o : O} {pos p apos : Pos} {Φ : D → O → Prop} {S : DSp} {g : Addr} {x : Str} {st : Stmt} {sts : List Stmt} {E : DE}
/-- what is wanted of a new object's __init__, the object given up -/
def MkEnd (τ : Tx) (C : Addr) (q : Addr) (Φ : D → O → Prop) : D → O → Prop := fun d o2 => d = .non ∧ ∃ o3 fs d', o2 = updO o3 q (.ins C fs) ∧ o3 q = none ∧ Seal τ C fs d' ∧ Φ d' o3
/-- .. an exception is raised in it -/
def MkExc (Ξ : DX → Δ → O → Prop) (δ : Δ) : DX → O → Prop := fun x o2 => ∃ o3, (∀ a y, o3 a = some y → o2 a = some y) ∧ Ξ x δ o3
theorem RX.mono {K : PySem.W.Frag} {H H' : Hp} {o o' : O} {cls : Value} {dx : Option Addr} {x : DX} (l : Le H o H' o') (r : RX K τ H o cls dx x) : RX K τ H' o' cls dx x := by
  obtain ⟨e, h⟩ := r
  refine ⟨e, ?_⟩
  rcases h with h | ⟨d, gs, e1, h1, h2, h3⟩
  · exact .inl h
  · exact .inr ⟨d, gs, e1, (l _ _ h2 h1).1, (l _ _ h2 h1).2, h3.mono l⟩
theorem runMk {C fI : Addr} {Post : Addr → D → O → Prop} {pins : List (Addr × Obj)} {s : Shared} {σ : L2.St} {H : Hp} {vs : List V} {us : List Value} {ds : List D} (M : Mk X.K C fI) (F : FnX X τ j fI n S) (hj : j + 1 ≤ k) (I : Inv X pins σ H s)
    (ok : Okk X.K τ Γ.H0 Γ.o0 σ H δ o) (r : Vals vs us) (rd : Rs X.K τ H o vs ds) (hn : ds.length + 1 = n) (h : ∀ q, o q = none → S (.ref q :: ds) (updO o q (.ins C [])) (fun d o2 => d = .non ∧ Post q d o2) (MkExc Ξ δ)) {Q : VK}
    (hP : ∀ q d o2 H2, o q = none → Own X.K τ H2 o2 → Le H o H2 o2 → Post q d o2 → Q (.ref q) H2) : wpAny (model X.prog X.w) X.A (call (.ref C) us) (EP X pins σ Q) X.xe s := by
  have f1 : H (s.heap.objs.size + 1) = none := I.hok.fresh (Nat.le_succ _)
  have f2 : H s.heap.objs.size = none := I.hok.fresh (Nat.le_refl _)
  have hne : s.heap.objs.size ≠ s.heap.objs.size + 1 := Nat.ne_of_lt (Nat.lt_succ_self _)
  have hq : o (s.heap.objs.size + 1) = none := ok.own.free f1
  have I2 := Inv.made (C := C) I
  have keep : ∀ a u, H a = some u → (upd (upd H s.heap.objs.size (.own (s.heap.objs.size + 1))) (s.heap.objs.size + 1) (.ins C s.heap.objs.size [])) a = some u := fun a u e => by
    rw [upd_ne (ne_of_none e f1), upd_ne (ne_of_none e f2)]
    exact e
  have l : Le H o (upd (upd H s.heap.objs.size (.own (s.heap.objs.size + 1))) (s.heap.objs.size + 1) (.ins C s.heap.objs.size [])) (updO o (s.heap.objs.size + 1) (.ins C [])) := fun a u n0 e => ⟨keep a u e, by rw [updO_ne (ne_of_none e f1)]; exact n0⟩
  have w : Own X.K τ (upd (upd H s.heap.objs.size (.own (s.heap.objs.size + 1))) (s.heap.objs.size + 1) (.ins C s.heap.objs.size [])) (updO o (s.heap.objs.size + 1) (.ins C [])) := fun a y e => by
    by_cases ha : a = s.heap.objs.size + 1
    · subst ha
      rw [updO_same] at e
      cases e
      exact ⟨_, [], upd_same, .nil⟩
    · rw [updO_ne ha] at e
      have := ok.own a y e
      cases y with
      | lst ds => obtain ⟨vs, h1, h2⟩ := this; exact ⟨vs, keep _ _ h1, h2.mono l⟩
      | ins C fs => obtain ⟨dx, gs, h1, h2⟩ := this; exact ⟨dx, gs, keep _ _ h1, h2.mono l⟩
      | dct kvs => obtain ⟨gs, h1, h2⟩ := this; exact ⟨gs, keep _ _ h1, h2.mono l⟩
  have r2 : Vals (V.ref (s.heap.objs.size + 1) :: vs) (Value.ref (s.heap.objs.size + 1) :: us) := .cons rfl r
  refine wpAny_call (make_map (f := fI) I.kIn M.makes M.init (beq_iff_eq.mp M.fn) (codeAny_mono (F.run _ X.stack _ _ (Value.ref (s.heap.objs.size + 1) :: us) (V.ref (s.heap.objs.size + 1) :: vs) (fun v H2 => v = .non ∧ Q (.ref (s.heap.objs.size + 1)) H2) (L2.WE Γ.W σ) ((Γ.room.mono hj).make C us [])
    (I2.env0.make C us []) r2 ⟨.ref (s.heap.objs.size + 1) :: ds, _, _, MkExc Ξ δ, .cons (.ref _) (rd.mono l), w, hn, h _ hq, fun v H2 ⟨d, o2, w2, l2, rv, e1, hp⟩ => ?_, fun cls dx H2 x o2 w2 l2 rx ⟨o3, hl, hx⟩ => ?_⟩) fun r s' hq' => ?_))
  · subst e1
    exact ⟨by cases rv; rfl, hP _ _ o2 H2 hq w2 (l.trans l2) hp⟩
  · obtain ⟨w3, l3⟩ := w2.less hl
    exact Γ.hW cls dx σ H2 x δ o3 (ok.step ((l.trans l2).trans l3) w3) (rx.mono l3) hx
  · cases r with
    | error e => exact passAt Γ.tk σ pins _ _ e s' I2 hq'
    | ok fl =>
      cases fl with
      | ret u =>
        obtain ⟨v, H', I3, rv, ev, q3⟩ := I2.after hq'
        subst ev
        exact ⟨rv, ⟨V.ref (s.heap.objs.size + 1), H', I3, rfl, q3⟩⟩
      | next => exact False.elim hq'
      | brk => exact False.elim hq'
      | cont => exact False.elim hq'
theorem mkEnd_ok {C q : Addr} {d : D} {o2 : O} {H H2 : Hp} (w2 : Own X.K τ H2 o2) (l2 : Le H o H2 o2) (hp : MkEnd τ C q Φ d o2) : PostE X.K τ H o Φ (.ref q) H2 := by
  obtain ⟨e1, o3, fs, d', e2, hq3, sl, hΦ⟩ := hp
  subst e2
  obtain ⟨w3, l3⟩ := w2.less (updO_less hq3)
  exact ⟨d', o3, w3, l2.trans l3, sl.ok (w2 q _ updO_same) l3 hq3, hΦ⟩
/-- C(e, ..), the object given up -/
theorem we_make {C fI : Addr} (M : Mk X.K C fI) (F : FnX X τ j fI n S) (hm : X.mg x = some (.ref C)) (h : WA Γ (e :: es) δ o fun ds o1 => ds.length + 1 = n ∧ ∀ q, o1 q = none → S (.ref q :: ds) (updO o1 q (.ins C [])) (MkEnd τ C q Φ) (MkExc Ξ δ)) (hj : j + 1 ≤ k := by decide)
    (hg : Gl X x := by rfl) (hdb : (x == ("__debug__" : Str)) = false := by decide) (he : starEach (e :: es) X.env = (false, eval e X.env) :: starEach es X.env := by rfl) (hpl : (backTo pos (starEach es X.env)).any (·.1) = false := by rfl) : WE Γ (.Call (.Name x p) (e :: es) [] pos) δ o Φ := by
  intro σ H ok pins s I
  refine wpAny_Call_Name_kw (ld_glob I hg hm ?_ hdb)
  refine PySem.W.callWith_K (h₀ := X.base) I.ok.mod.kin M.kp (thn (h σ H ok pos pins s I) fun us s1 ⟨vs, H1, I1, r, ds, o1, w1, l1, rd, hn, q⟩ => ⟨I1.kIn, ?_⟩) he hpl
  refine thn (runMk (Post := fun q d o2 => MkEnd τ C q Φ d o2) M F hj I1 (ok.step l1 w1) r rd hn (Q := PostE X.K τ H1 o1 Φ) ?_ ?_) fun u s2 z => EP.imp z fun v H' p => PostE.le l1 p
  · intro q0 h0
    have := q q0 h0
    have e : (fun d o2 => d = D.non ∧ MkEnd τ C q0 Φ d o2) = MkEnd τ C q0 Φ := by
      funext d o2
      exact propext ⟨fun z => z.2, fun z => ⟨z.1, z⟩⟩
    rw [e]
    exact this
  · exact fun q d o2 H2 h0 w2 l2 hp => mkEnd_ok w2 l2 hp
theorem seal_deck {C q : Addr} {cc gg : Int} {o2 o3 : O} {Φ : D → O → Prop} (hC : C = τ.deck) (e : o2 = updO o3 q (.ins C [("first", .int cc), ("more", .int gg)])) (hq : o3 q = none) (h : Φ (.deck cc gg) o3) : MkEnd τ C q Φ .non o2 := by
  subst hC
  exact ⟨rfl, o3, _, _, e, hq, .deck cc gg, h⟩
/-- C.m(e, ..), m a classmethod, C a name of the module -/
theorem we_cmeth {C q g : Addr} {mc : Value} {m : Str} {pl : Sem Bool} (F : FnX X τ j g n S) (r : ClX.CRead X.K C mc) (cm : ClX.CMet X.K C mc m q g) (h : WE Γ a δ o fun d1 o1 => d1 = .ref C ∧ WA Γ (e :: es) δ o1 fun ds o2 => ds.length + 1 = n ∧ S (.ref C :: ds) o2 Φ fun x o3 => Ξ x δ o3)
    (hj : j ≤ k := by decide) (hst : starEach (e :: es) X.env = (false, eval e X.env) :: starEach es X.env := by rfl) (hpl : (backTo pos (starEach es X.env)).any (·.1) = false := by rfl)
    (ht : eval (.Call (.Attribute a m apos) (e :: es) [] pos) X.env = (do
      let ov ← eval a X.env
      standAt apos.atName
      let (f, first) ← holding [ov] (getMethod ov m pl)
      callWith pos f first (backTo pos (starEach (e :: es) X.env)) (backToKw pos (keywordEach [] X.env))) := by rfl) : WE Γ (.Call (.Attribute a m apos) (e :: es) [] pos) δ o Φ := by
  intro σ H ok pins s I
  refine PySem.W.methodCall_KW (pl := pl) (thn (h σ H ok pins s I) fun u s1 ⟨v, H1, I1, rv, d1, o1, w1, l1, r1, e1, q1⟩ => ?_) ht
  subst e1
  cases r1
  obtain rfl : u = Value.ref C := rv
  have ok1 := ok.step l1 w1
  refine ClX.getmethcm_ok I1 r cm fun s2 I2 => ?_
  refine ClX.callwith_cm I2 (ClX.base_none I1 (Nat.le_refl _)) cm.fi (thn (q1 σ H1 ok1 pos _ s2 I2) fun us s3 ⟨vs, H2, I3, rv, ds, o2, w2, l2, rd, hn, q2⟩ => ⟨⟨ClX.pin_at I3, I3.kIn⟩, ?_⟩) hst hpl
  have z := runC (A := X.A) (us := .ref C :: us) (vs := .ref C :: vs) F (Γ.room.mono hj) rfl I3 (ok1.step l2 w2) (.cons rfl rv) (.cons (.ref C) rd) hn q2
  exact thn (wpAny_call (PySem.W.method_call (ClX.pin_at I3) z)) fun u s4 z => ClX.unpinE (EP.imp z fun v H' p => PostE.le (l1.trans l2) p)
end
end DL

set_option Elab.async false
set_option linter.all false
set_option maxRecDepth 100000
set_option maxHeartbeats 2000000
/-! DL9: isinstance. -/
namespace DL
open PySem PySem.Spec PyProof.Rows L2
/-- the name of a datum's built-in type -/
def tyB : D → String
  | .non => "NoneType" | .bl _ => "bool" | .int _ => "int" | .str _ => "str" | .byt _ => "bytes" | .tup _ => "tuple" | .lst _ => "list" | .dct _ => "dict" | .scr _ => "list" | _ => ""
def isB : D → Bool
  | .non => true | .bl _ => true | .int _ => true | .str _ => true | .byt _ => true | .tup _ => true | .lst _ => true | .dct _ => true | .scr _ => true | _ => false
section
variable {X : Cx} {τ : Tx} {k j n : Nat} {Ξ : DX → Δ → O → Prop} {Γ : Gm X τ k Ξ} {e a b c : Expr} {es : List Expr} {δ : Δ} {o : O} {pos p apos : Pos} {Φ : D → O → Prop} {S : DSp} {g : Addr} {x : Str} {st : Stmt} {sts : List Stmt} {E : DE}
theorem R.tyx {K : PySem.W.Frag} {H : Hp} {v : V} {d : D} (r : R K τ H o v d) (hh : isB d = true) : TyX K H v (.type (tyB d)) := by
  cases r with
  | non => exact .base .non
  | bl b => exact .base (.bl b)
  | int i => exact .base (.int i)
  | str x => exact .base (.str x)
  | byt x => exact .byt x
  | tup h r =>
    rcases h with ⟨h | ⟨ob, h⟩, _⟩ | h
    · exact .base (.tup h)
    · exact .fTuple h
    · rcases h with h | ⟨ob, its, n, h1, h2, _⟩
      · exact (rd0 h).elim
      · exact .kTuple h1 h2
  | lst h n r => exact .base (.lst h)
  | scr h =>
    rcases h with ⟨h | ⟨ob, h⟩, _⟩ | h
    · exact .base (.lst h)
    · exact .base (.frz h)
    · rcases h with h | ⟨ob, its, n, h1, h2, _⟩
      · exact (rd0 h).elim
      · exact .kList h1 h2
  | dct h n r => exact .base (.dK h)
  | _ => cases hh
def isiS (ds : List D) (o : O) (Φ : D → O → Prop) : Prop := ∃ d T b, ds = [d, .ty T] ∧ isB d = true ∧ kitB (tyB d) T = some b ∧ Φ (.bl b) o
theorem we_isi (hm : X.mg "isinstance" = none) (h : WA Γ (e :: es) δ o fun ds o1 => isiS ds o1 Φ) (hg : Gl X "isinstance" := by rfl) (he : starEach (e :: es) X.env = (false, eval e X.env) :: starEach es X.env := by rfl) (hpl : (backTo pos (starEach es X.env)).any (·.1) = false := by rfl) : WE Γ (.Call (.Name "isinstance" p) (e :: es) [] pos) δ o Φ :=
  we_callB call_isi (fun H o vs ds Φ Q r w t k => by
    obtain ⟨d, T, b, rfl, hn, hk, q⟩ := t
    cases r with
    | cons r1 r => cases r with
      | cons r2 r =>
        cases r
        cases r2
        exact ⟨_, _, _, _, b, rfl, .ty T, r1.tyx hn, kit_ty hk, k _ _ (.here w (.bl b) q)⟩) hm h hg (he := he) (hpl := hpl)
theorem we_bty {T : String} (hm : X.mg x = none) (h : Φ (.ty T) o) (hg : Gl X x := by rfl) (hv : bootBuiltins x = some (.type T) := by decide +kernel) (hn : x ≠ "__name__" := by decide) (hd : (x == ("__debug__" : Str)) = false := by decide) : WE Γ (.Name x pos) δ o Φ := fun σ H ok =>
  cE_of (pe_bltn (v := .ty T) hg hm hv rfl hn hd) (.here ok.own (.ty T) h)
theorem kit_ii : kitB "int" "int" = some true := by decide +kernel
theorem kit_bi : kitB "bool" "int" = some true := by decide +kernel
theorem kit_ib : kitB "int" "bool" = some false := by decide +kernel
theorem kit_bb : kitB "bool" "bool" = some true := by decide +kernel
/-- what an argument of any kind may be -/
def anyD : D → Bool
  | .non => true | .bl _ => true | .int _ => true | .str _ => true | .tup _ => true | .lst _ => true | _ => false
theorem isi_int {d : D} (hd : anyD d = true) (h1 : ∀ i, d = .int i → Φ (.bl true) o) (h2 : ∀ i, d = .bl i → Φ (.bl true) o) (h3 : (∀ i, d ≠ .int i) → (∀ i, d ≠ .bl i) → Φ (.bl false) o) : isiS [d, .ty "int"] o Φ := by
  cases d with
  | int i => exact ⟨_, _, true, rfl, rfl, kit_ii, h1 i rfl⟩
  | bl i => exact ⟨_, _, true, rfl, rfl, kit_bi, h2 i rfl⟩
  | non => exact ⟨_, _, false, rfl, rfl, (by decide +kernel), h3 (by intro i z; cases z) (by intro i z; cases z)⟩
  | str x => exact ⟨_, _, false, rfl, rfl, (show kitB "str" "int" = some false by decide +kernel), h3 (by intro i z; cases z) (by intro i z; cases z)⟩
  | tup x => exact ⟨_, _, false, rfl, rfl, (show kitB "tuple" "int" = some false by decide +kernel), h3 (by intro i z; cases z) (by intro i z; cases z)⟩
  | lst x => exact ⟨_, _, false, rfl, rfl, (show kitB "list" "int" = some false by decide +kernel), h3 (by intro i z; cases z) (by intro i z; cases z)⟩
  | _ => cases hd
end
end DL

set_option Elab.async false
set_option linter.all false
set_option maxRecDepth 100000
set_option maxHeartbeats 2000000
/-! DL10: raising. -/
namespace DL
open PySem PySem.Spec PyProof.Rows L2
/-- an exception class of the text without an __init__ of its own below ValueError's -/
structure ExcN (K : PySem.W.Frag) (mg : Str → Option Value) (x : Str) (C : Addr) : Prop where
  g : mg x = some (.ref C)
  ex : PySem.W.excIn K C [.type "ValueError", .type "Exception", .type "BaseException", .type "object"] "ValueError.__new__" = true
  kp : PySem.W.keepIn K (.ref C) = true
  sub : PySem.W.subIn K (.ref C) (.type "BaseException") = some true
  ty : PySem.W.typeIn K (.ref C) = some (.type "type")
section
variable {X : Cx} {τ : Tx} {k j n : Nat} {Ξ : DX → Δ → O → Prop} {Γ : Gm X τ k Ξ} {e a b c : Expr} {es : List Expr} {δ : Δ} {o : O} {pos p apos : Pos} {Φ : D → O → Prop} {S : DSp} {g : Addr} {x : Str} {st : Stmt} {sts : List Stmt} {E : DE}
/-- raise X('..') -/
theorem ws_raiseN {C : Addr} {m : Str} {j' : Nat} {p p2 pos pos2 : Pos} (T : ExcN X.K X.mg x C) (h : Ξ ⟨C, []⟩ δ o) (hg : Gl X x := by rfl) (hc : X.calm = true := by rfl) (hdb : (x == ("__debug__" : Str)) = false := by decide) :
    WS Γ (.Raise (some (.Call (.Name x p) [.Constant (.str m) j' p2] [] pos)) none pos2) δ o E := fun σ H ok => by
  exact cS_of (ps_raise hc Γ.tk (pmk_own PySem.F.excBase_ValueError T.ex T.g T.kp (raises_own T.sub T.ty) hg hdb)) (Γ.hW (.ref C) none σ H ⟨C, []⟩ δ o ok ⟨rfl, .inl ⟨rfl, rfl⟩⟩ h)
end
/-- an own __init__ that hands a text on to ValueError's and stores its argument at f -/
def fmtV : V → Prop
  | .str y => y.length ≤ 1000
  | .int i => i.natAbs.log2 < 1920
  | _ => False
def spX1 (C : Addr) (f : Str) : Sp := fun vs H Q _ => ∃ a v, vs = [.ref a, v] ∧ H a = some (exo a C none) ∧ fmtV v ∧ ∀ d, H d = none → d ≠ a → Q .non (upd (upd H d (exd d [(f, v)])) a (exo a C (some d)))
/-- an exception class with such an __init__ -/
structure ExcF (P : Program) (w : World) (K : PySem.W.Frag) (mg : Str → Option Value) (base : Heap) (x : Str) (C : Addr) (f : Str) : Prop where
  g : mg x = some (.ref C)
  T : OexC K C
  init : ∃ (fI : Addr) (fd : FuncData), PySem.W.findIn K (.ref C) "__init__" = some (some (.ref fI)) ∧ PySem.W.typeIn K (.ref fI) = some (.type "function") ∧ Binds K fd ["self", f] [] ∧ FnOk P w K mg base (L2.CX P w) 1 fI fd ["self", f] (spX1 C f)
section
variable {X : Cx} {τ : Tx} {k j n : Nat} {Ξ : DX → Δ → O → Prop} {Γ : Gm X τ k Ξ} {e a b c : Expr} {es : List Expr} {δ : Δ} {o : O} {pos p apos : Pos} {Φ : D → O → Prop} {S : DSp} {g : Addr} {x : Str} {st : Stmt} {sts : List Stmt} {E : DE}
def fmtD : D → Prop
  | .str y => y.length ≤ 1000
  | .int i => i.natAbs.log2 < 1920
  | _ => False
theorem R.fmt {K : PySem.W.Frag} {H : Hp} {v : V} {d : D} (r : R K τ H o v d) (h : fmtD d) : fmtV v := by
  cases r <;> first | exact h | exact h.elim
theorem passN {X : Cx} : Passes (L2.CX X.prog X.w) X (fun _ _ _ => False) := fun _ _ _ _ _ _ _ ⟨_, _, _, _, _, _, _, _, _, _, _, _, f⟩ => f.elim
/-- raise X(e), X with such an __init__ -/
theorem ws_raiseF {C : Addr} {f : Str} {p pos pos2 : Pos} (T : ExcF X.prog X.w X.K X.mg X.base x C f) (h : WA Γ [e] δ o fun ds o1 => ∃ d, ds = [d] ∧ fmtD d ∧ Ξ ⟨C, [(f, d)]⟩ δ o1) (hj : 2 ≤ k := by decide) (hg : Gl X x := by rfl) (hc : X.calm = true := by rfl) (hdb : (x == ("__debug__" : Str)) = false := by decide)
    (he : starEach (e :: []) X.env = (false, eval e X.env) :: starEach [] X.env := by rfl) (hpl : (backTo pos (starEach [] X.env)).any (·.1) = false := by rfl) :
    WS Γ (.Raise (some (.Call (.Name x p) [e] [] pos)) none pos2) δ o E := fun σ H ok => by
  obtain ⟨fI, fd, iC, tI, hb, F1⟩ := T.init
  refine cS_of (ps_raise hc Γ.tk (pmk_oex T.T iC tI F1 (Γ.room.mono hj) hb .nil passN hg T.g pa_c hdb he hpl)) ?_
  refine cA_mono (h σ H ok) fun vs H1 ⟨ds, o1, w1, l1, rs, d, e1, hf, hx⟩ => ?_
  subst e1
  cases rs with
  | cons r1 rs =>
    cases rs
    rename_i v _
    refine ⟨by show 1 ≤ 1000; decide, fun q hq => ?_⟩
    refine ⟨q, v, rfl, upd_same, r1.fmt hf, fun dd hd hne => ⟨rfl, dd, [(f, v)], upd_same, by rw [upd_ne hne, upd_same], ?_, ?_⟩⟩
    · rw [upd_ne hne] at hd
      exact hd
    · have hd1 : H1 dd = none := by rw [upd_ne hne] at hd; exact hd
      have l2 : Le H1 o1 (upd (del (upd (upd (upd H1 q (exo q C none)) dd (exd dd [(f, v)])) q (exo q C (some dd))) q) dd (.xd [(f, v)])) o1 := fun a u n0 e0 => by
        have n1 : a ≠ q := ne_of_none e0 hq
        have n2 : a ≠ dd := ne_of_none e0 hd1
        refine ⟨?_, n0⟩
        rw [upd_ne n2, del_ne n1, upd_ne n1, upd_ne n2, upd_ne n1]
        exact e0
      have w2 : Own X.K τ (upd (del (upd (upd (upd H1 q (exo q C none)) dd (exd dd [(f, v)])) q (exo q C (some dd))) q) dd (.xd [(f, v)])) o1 := fun a y e0 => by
        have keep : ∀ {u : HO}, H1 a = some u → (upd (del (upd (upd (upd H1 q (exo q C none)) dd (exd dd [(f, v)])) q (exo q C (some dd))) q) dd (.xd [(f, v)])) a = some u := fun {u} z => by
          rw [upd_ne (ne_of_none z hd1), del_ne (ne_of_none z hq), upd_ne (ne_of_none z hq), upd_ne (ne_of_none z hd1), upd_ne (ne_of_none z hq)]
          exact z
        have hw := w1 a y e0
        cases y with
        | lst ds => obtain ⟨vs, h1, h2⟩ := hw; exact ⟨vs, keep h1, h2.mono l2⟩
        | ins C fs => obtain ⟨dx, gs, h1, h2⟩ := hw; exact ⟨dx, gs, keep h1, h2.mono l2⟩
        | dct kvs => obtain ⟨gs, h1, h2⟩ := hw; exact ⟨gs, keep h1, h2.mono l2⟩
      refine Γ.hW (.ref C) (some dd) σ _ ⟨C, [(f, d)]⟩ δ o1 ((ok.step l1 w1).step l2 w2) ⟨rfl, .inr ⟨dd, [(f, v)], rfl, upd_same, w1.free hd1, .cons (r1.mono l2) .nil⟩⟩ hx
/-! ### such an __init__ -/
/-- T.__init__(self, ..), T an own class below ValueError -/
structure BaseI (K : PySem.W.Frag) (mg : Str → Option Value) (x : Str) (B : Addr) : Prop where
  g : mg x = some (.ref B)
  r : ∃ mc, ClX.CRead K B mc ∧ PySem.W.findCls K (.ref B) mc "__init__" = some (.val (.builtin "ValueError.__init__"))
theorem pe_bainit {B : Addr} {p1 p2 : Pos} {ta : TA} {pl : Sem Bool} (T : BaseI X.K X.mg x B) (ha : PA X (e :: es) ta) (hg : Gl X x := by rfl) (hdb : (x == ("__debug__" : Str)) = false := by decide)
    (hc : eval (.Call (.Attribute (.Name x p1) "__init__" p2) (e :: es) [] pos) X.env = (do
      let ov ← eval (.Name x p1) X.env
      standAt p2.atName
      let (f, first) ← holding [ov] (getMethod ov "__init__" pl)
      callWith pos f first (backTo pos (starEach (e :: es) X.env)) (backToKw pos (keywordEach [] X.env))) := by rfl)
    (he : starEach (e :: es) X.env = (false, eval e X.env) :: starEach es X.env := by rfl) (hpl : (backTo pos (starEach es X.env)).any (·.1) = false := by rfl) :
    PE X (.Call (.Attribute (.Name x p1) "__init__" p2) (e :: es) [] pos) (tVeI X.K ta) := by
  refine ⟨fun pins s σ H Q I h => ?_⟩
  obtain ⟨mc, r, hv⟩ := T.r
  refine PySem.W.methodCall_KW (pl := pl) (ld_glob I hg T.g ?_ hdb) hc
  refine PySem.W.method_cls I.kIn r.ga (PySem.W.cls_value I.kIn r.rd hv (by decide +kernel) ?_)
  show wpAny _ _ (callWith pos (Value.builtin "ValueError.__init__") [] (backTo pos (starEach (e :: es) X.env)) []) _ _ _
  refine PyProof.Rows.callWith_method1 (thn (ha.run pos pins _ σ H _ (I.tok _) h) fun us s1 ⟨vs, H1, I1, r1, a, C, ws, ev, hl, T, ea, q⟩ => ?_) he hpl
  subst ev
  cases r1 with
  | @cons _ u0 _ ur ra rw' =>
    obtain rfl : u0 = Value.ref a := ra
    have hlen : ur.length ≤ sizeLine := by
      rw [← Paired.length rw', sizeLine_eq]
      omega
    exact oinit_ok T I1 ea hlen fun s' J => ⟨.non, H1, J, rfl, q⟩
end
end DL

set_option Elab.async false
set_option linter.all false
set_option maxRecDepth 100000
set_option maxHeartbeats 2000000
/-! DL11: defs, methods, operators of the text by name. -/
namespace DL
open PySem PySem.Spec PyProof.Rows L2
section
variable (P : Program) (w : World) (K : PySem.W.Frag) (mg : Str → Option Value) (base : Heap) (τ : Tx)
/-- a def of the module -/
structure DefD (x : Str) (j n : Nat) (S : DSp) : Prop where
  ex : ∃ f, mg x = some (.ref f) ∧ FnD P w K mg base τ j f n S
/-- a method -/
structure MetD (C : Addr) (m : Str) (j n : Nat) (S : DSp) : Prop where
  cl : Cls K C
  ex : ∃ f, Meth K C m f ∧ FnD P w K mg base τ j f n S
/-- a property -/
structure PrpD (C : Addr) (m : Str) (j : Nat) (S : DSp) : Prop where
  cl : Cls K C
  ex : ∃ p f, PropOf K C m p f ∧ FnD P w K mg base τ j f 1 S
/-- instances are called -/
structure CalD (C : Addr) (j n : Nat) (S : DSp) : Prop where
  ex : ∃ f, StX.CallO K C f ∧ FnD P w K mg base τ j f n S
structure BinD (C : Addr) (op : Operator) (j : Nat) (S : DSp) : Prop where
  ex : ∃ f, BinC K C op f ∧ FnD P w K mg base τ j f 2 S
structure InvD (C : Addr) (j : Nat) (S : DSp) : Prop where
  ex : ∃ f, PySem.W.findIn K (.ref C) "__invert__" = some (some (.ref f)) ∧ PySem.W.isFn K (.ref f) = true ∧ FnD P w K mg base τ j f 1 S
structure EqlD (C : Addr) (j : Nat) (S : DSp) : Prop where
  ex : ∃ f, EqC K C f ∧ FnD P w K mg base τ j f 2 S
structure ItmD (C : Addr) (j : Nat) (S : DSp) : Prop where
  ex : ∃ f, IxC K C f ∧ FnD P w K mg base τ j f 2 S
structure ConD (C : Addr) (j : Nat) (S : DSp) : Prop where
  ex : ∃ f, InC K C f ∧ FnD P w K mg base τ j f 2 S
/-- the class is made by an __init__ -/
structure MakD (x : Str) (C : Addr) (j n : Nat) (S : DSp) : Prop where
  g : mg x = some (.ref C)
  ex : ∃ f, Mk K C f ∧ FnD P w K mg base τ j f n S
/-- a classmethod, the class by its name -/
structure CmtD (x : Str) (C : Addr) (m : Str) (j n : Nat) (S : DSp) : Prop where
  g : mg x = some (.ref C)
  ex : ∃ mc p f, ClX.CRead K C mc ∧ ClX.CMet K C mc m p f ∧ FnD P w K mg base τ j f n S
end
section
variable {X : Cx} {τ : Tx} {k j n : Nat} {Ξ : DX → Δ → O → Prop} {Γ : Gm X τ k Ξ} {e a b c : Expr} {es : List Expr} {δ : Δ} {o : O} {pos p apos : Pos} {Φ : D → O → Prop} {S : DSp} {g : Addr} {x : Str} {st : Stmt} {sts : List Stmt} {E : DE} {C : Addr} {m : Str}
theorem wd_call (F : DefD X.prog X.w X.K X.mg X.base τ x j n S) (h : WA Γ (e :: es) δ o fun ds o1 => ds.length = n ∧ S ds o1 Φ fun x o2 => Ξ x δ o2) (hj : j ≤ k := by decide) (hg : Gl X x := by rfl) (hdb : (x == ("__debug__" : Str)) = false := by decide)
    (he : starEach (e :: es) X.env = (false, eval e X.env) :: starEach es X.env := by rfl) (hpl : (backTo pos (starEach es X.env)).any (·.1) = false := by rfl) : WE Γ (.Call (.Name x p) (e :: es) [] pos) δ o Φ := by
  obtain ⟨f, hm, F⟩ := F.ex
  exact we_call F hm h hj hg hdb he hpl
theorem wd_call0 (F : DefD X.prog X.w X.K X.mg X.base τ x j 0 S) (h : S [] o Φ fun x o2 => Ξ x δ o2) (hj : j ≤ k := by decide) (hg : Gl X x := by rfl) (hdb : (x == ("__debug__" : Str)) = false := by decide) : WE Γ (.Call (.Name x p) [] [] pos) δ o Φ := by
  obtain ⟨f, hm, F⟩ := F.ex
  exact we_call0 F hm ⟨rfl, h⟩ hj hg hdb
theorem wd_meth {pl : Sem Bool} (F : MetD X.prog X.w X.K X.mg X.base τ C m j n S)
    (h : WE Γ a δ o fun d o1 => ∃ ns, InsD τ o1 d C ns ∧ m ∉ ns ∧ WA Γ (e :: es) δ o1 fun ds o2 => (d :: ds).length = n ∧ S (d :: ds) o2 Φ fun x o3 => Ξ x δ o3) (hj : j ≤ k := by decide)
    (hst : starEach (e :: es) X.env = (false, eval e X.env) :: starEach es X.env := by rfl) (hpl : (backTo pos (starEach es X.env)).any (·.1) = false := by rfl)
    (ht : eval (.Call (.Attribute a m apos) (e :: es) [] pos) X.env = (do
      let ov ← eval a X.env
      standAt apos.atName
      let (f, first) ← holding [ov] (getMethod ov m pl)
      callWith pos f first (backTo pos (starEach (e :: es) X.env)) (backToKw pos (keywordEach [] X.env))) := by rfl) :
    WE Γ (.Call (.Attribute a m apos) (e :: es) [] pos) δ o Φ := by
  obtain ⟨f, hm, F'⟩ := F.ex
  exact we_meth (pl := pl) F' F.cl hm h hj hst hpl ht
theorem wd_meth0 {pl : Sem Bool} (F : MetD X.prog X.w X.K X.mg X.base τ C m j 1 S)
    (h : WE Γ a δ o fun d o1 => ∃ ns, InsD τ o1 d C ns ∧ m ∉ ns ∧ S [d] o1 Φ fun x o3 => Ξ x δ o3) (hj : j ≤ k := by decide)
    (ht : eval (.Call (.Attribute a m apos) [] [] pos) X.env = (do
      let ov ← eval a X.env
      standAt apos.atName
      let (f, first) ← holding [ov] (getMethod ov m pl)
      callWith pos f first (backTo pos (starEach [] X.env)) (backToKw pos (keywordEach [] X.env))) := by rfl) :
    WE Γ (.Call (.Attribute a m apos) [] [] pos) δ o Φ := by
  obtain ⟨f, hm, F'⟩ := F.ex
  exact we_meth0 (pl := pl) F' F.cl hm (h.mono fun d o1 ⟨ns, h1, h2, h3⟩ => ⟨ns, h1, h2, rfl, h3⟩) hj ht
theorem wd_prop (F : PrpD X.prog X.w X.K X.mg X.base τ C m j S) (h : WE Γ a δ o fun d1 o1 => (∃ ns, InsD τ o1 d1 C ns) ∧ S [d1] o1 Φ fun _ _ => False) (hj : j + 1 ≤ k := by decide) (hb : attributeBase a m X.env (eval a X.env) = eval a X.env := by rfl) : WE Γ (.Attribute a m pos) δ o Φ := by
  obtain ⟨p, f, hm, F'⟩ := F.ex
  exact we_prop F' F.cl hm h hj hb
theorem wd_callO {fe : Expr} (F : CalD X.prog X.w X.K X.mg X.base τ C j n S)
    (h : WE Γ fe δ o fun d o1 => (∃ ns, InsD τ o1 d C ns) ∧ WA Γ (e :: es) δ o1 fun ds o2 => (∃ ns, InsD τ o2 d C ns) ∧ (d :: ds).length = n ∧ S (d :: ds) o2 Φ fun x o3 => Ξ x δ o3)
    (hj : j ≤ k := by decide)
    (ht : eval (.Call fe (e :: es) [] pos) X.env = (do callWith pos (← eval fe X.env) [] (backTo pos (starEach (e :: es) X.env)) (backToKw pos (keywordEach [] X.env))) := by rfl)
    (he : starEach (e :: es) X.env = (false, eval e X.env) :: starEach es X.env := by rfl) (hpl : (backTo pos (starEach es X.env)).any (·.1) = false := by rfl) : WE Γ (.Call fe (e :: es) [] pos) δ o Φ := by
  obtain ⟨f, hm, F'⟩ := F.ex
  exact we_callO F' hm h hj ht he hpl
theorem wd_binC {op : Operator} (F : BinD X.prog X.w X.K X.mg X.base τ C op j S)
    (h : WE Γ a δ o fun d1 o1 => WE Γ b δ o1 fun d2 o2 => (∃ ns, InsD τ o2 d1 C ns) ∧ (∃ ns, InsD τ o2 d2 C ns) ∧ S [d1, d2] o2 Φ fun x o3 => Ξ x δ o3) (hj : j ≤ k := by decide) : WE Γ (.BinOp a op b pos) δ o Φ := by
  obtain ⟨f, hm, F'⟩ := F.ex
  exact we_binC F' hm h hj
theorem wd_binT {op : Operator} (F : BinD X.prog X.w X.K X.mg X.base τ C op j S)
    (h : WE Γ a δ o fun d1 o1 => WE Γ b δ o1 fun d2 o2 => (∃ ns, InsD τ o2 d1 C ns) ∧ (tyN d2 ≠ "" ∧ BinT X.K C op (tyN d2)) ∧ S [d1, d2] o2 Φ fun x o3 => Ξ x δ o3) (hj : j ≤ k := by decide) : WE Γ (.BinOp a op b pos) δ o Φ := by
  obtain ⟨f, hm, F'⟩ := F.ex
  exact we_binT F' hm h hj
theorem wd_inv (F : InvD X.prog X.w X.K X.mg X.base τ C j S) (h : WE Γ a δ o fun d1 o1 => (∃ ns, InsD τ o1 d1 C ns) ∧ S [d1] o1 Φ fun x o3 => Ξ x δ o3) (hj : j ≤ k := by decide) : WE Γ (.UnaryOp .Invert a pos) δ o Φ := by
  obtain ⟨f, h1, h2, F'⟩ := F.ex
  exact we_invO F' h1 h2 h hj
theorem wcd_eq (F : EqlD X.prog X.w X.K X.mg X.base τ C j S)
    (h : WE Γ a δ o fun d1 o1 => WE Γ b δ o1 fun d2 o2 => (∃ ns, InsD τ o2 d1 C ns) ∧ (tyD τ d2 ≠ .none ∧ PySem.W.notFirst X.K C (tyD τ d2) = true) ∧ S [d1, d2] o2 Φ fun x o3 => Ξ x δ o3) (hj : j ≤ k := by decide) : WC Γ .Eq a b δ o Φ := by
  obtain ⟨f, hm, F'⟩ := F.ex
  exact wc_eqO F' hm h hj
theorem wd_ix (F : ItmD X.prog X.w X.K X.mg X.base τ C j S)
    (h : WE Γ a δ o fun d1 o1 => WE Γ b δ o1 fun d2 o2 => (∃ ns, InsD τ o2 d1 C ns) ∧ S [d1, d2] o2 Φ fun x o3 => Ξ x δ o3) (hj : j + 1 ≤ k := by decide)
    (hsl : ∀ q i, subscripted b true (.ref q) i = runValue (.builtin "lifetime.subscript" ⟨[.ref q, i], []⟩) := by intros; with_unfolding_all rfl) : WE Γ (.Subscript a b pos) δ o Φ := by
  obtain ⟨f, hm, F'⟩ := F.ex
  exact we_ixO F' hm h hj hsl
theorem wcd_in (F : ConD X.prog X.w X.K X.mg X.base τ C j S)
    (h : WE Γ a δ o fun d1 o1 => WE Γ b δ o1 fun d2 o2 => (∃ ns, InsD τ o2 d2 C ns) ∧ S [d2, d1] o2 (fun d o3 => ∃ q, d = .bl q ∧ Φ (.bl q) o3) fun x o3 => Ξ x δ o3) (hj : j ≤ k := by decide) : WC Γ .In a b δ o Φ := by
  obtain ⟨f, hm', F'⟩ := F.ex
  exact wc_inO F' hm' h hj
theorem wcd_notIn (F : ConD X.prog X.w X.K X.mg X.base τ C j S)
    (h : WE Γ a δ o fun d1 o1 => WE Γ b δ o1 fun d2 o2 => (∃ ns, InsD τ o2 d2 C ns) ∧ S [d2, d1] o2 (fun d o3 => ∃ q, d = .bl q ∧ Φ (.bl (!q)) o3) fun x o3 => Ξ x δ o3) (hj : j ≤ k := by decide) : WC Γ .NotIn a b δ o Φ := by
  obtain ⟨f, hm', F'⟩ := F.ex
  exact wc_notInO F' hm' h hj
theorem wd_make (F : MakD X.prog X.w X.K X.mg X.base τ x C j n S) (h : WA Γ (e :: es) δ o fun ds o1 => ds.length + 1 = n ∧ ∀ q, o1 q = none → S (.ref q :: ds) (updO o1 q (.ins C [])) (MkEnd τ C q Φ) (MkExc Ξ δ)) (hj : j + 1 ≤ k := by decide)
    (hg : Gl X x := by rfl) (hdb : (x == ("__debug__" : Str)) = false := by decide) (he : starEach (e :: es) X.env = (false, eval e X.env) :: starEach es X.env := by rfl) (hpl : (backTo pos (starEach es X.env)).any (·.1) = false := by rfl) : WE Γ (.Call (.Name x p) (e :: es) [] pos) δ o Φ := by
  obtain ⟨f, hm', F'⟩ := F.ex
  exact we_make hm' F' F.g h hj hg hdb he hpl
theorem wd_cmeth {p' : Pos} {pl : Sem Bool} (F : CmtD X.prog X.w X.K X.mg X.base τ x C m j n S) (h : WA Γ (e :: es) δ o fun ds o2 => ds.length + 1 = n ∧ S (.ref C :: ds) o2 Φ fun x o3 => Ξ x δ o3)
    (hj : j ≤ k := by decide) (hg : Gl X x := by rfl) (hdb : (x == ("__debug__" : Str)) = false := by decide) (hst : starEach (e :: es) X.env = (false, eval e X.env) :: starEach es X.env := by rfl) (hpl : (backTo pos (starEach es X.env)).any (·.1) = false := by rfl)
    (ht : eval (.Call (.Attribute (.Name x p') m apos) (e :: es) [] pos) X.env = (do
      let ov ← eval (.Name x p') X.env
      standAt apos.atName
      let (f, first) ← holding [ov] (getMethod ov m pl)
      callWith pos f first (backTo pos (starEach (e :: es) X.env)) (backToKw pos (keywordEach [] X.env))) := by rfl) : WE Γ (.Call (.Attribute (.Name x p') m apos) (e :: es) [] pos) δ o Φ := by
  obtain ⟨mc, q, f, h1, h2, F'⟩ := F.ex
  exact we_cmeth (pl := pl) F' h1 h2 (we_globR F.g ⟨rfl, h⟩ hg hdb) hj hst hpl ht
/-- a field of a deck, a tape -/
theorem wd_first {c' g' : Int} {Φ : D → O → Prop} (hc : ClsX X.K τ.deck ["first", "more"]) (h : Φ (.int c') o) : ∃ C ns, InsD τ o (.deck c' g') C ns ∧ ClsX X.K C ns ∧ ("first" : Str) ∈ ns ∧ fldS "first" (.deck c' g') o Φ := ⟨_, _, .deck _ _, hc, by decide +kernel, .inl ⟨rfl, h⟩⟩
theorem wd_more {c' g' : Int} {Φ : D → O → Prop} (hc : ClsX X.K τ.deck ["first", "more"]) (h : Φ (.int g') o) : ∃ C ns, InsD τ o (.deck c' g') C ns ∧ ClsX X.K C ns ∧ ("more" : Str) ∈ ns ∧ fldS "more" (.deck c' g') o Φ := ⟨_, _, .deck _ _, hc, by decide +kernel, .inr ⟨rfl, h⟩⟩
end
end DL

set_option Elab.async false
set_option linter.all false
set_option maxRecDepth 100000
set_option maxHeartbeats 2000000
/-! DL12: isinstance of an own class; a class held by a local name. -/
namespace DL
open PySem PySem.Spec PyProof.Rows L2
/-- instances of the class at C are asked by isinstance -/
structure IsiC (K : PySem.W.Frag) (C : Addr) : Prop where
  cl : Cls K C
  ha : PySem.W.findIn K (.ref C) "__class__" = some (some (.builtin "object.__class__"))
  hn : PySem.W.specialIn K (.builtin "object.__class__") "__get__" = some (some (.builtin "getset_descriptor.__get__"))
  htk : PySem.W.takesIn K (.builtin "object.__class__") = some true
  hm : PySem.W.mroIn K C (.type "object") = some true
theorem kitOne_self {K : PySem.W.Frag} {t : Value} : PySem.W.kitOne K t t = some true := by
  unfold PySem.W.kitOne
  rw [if_pos (by simp)]
section
variable {X : Cx} {τ : Tx} {k j n : Nat} {Ξ : DX → Δ → O → Prop} {Γ : Gm X τ k Ξ} {e a b c : Expr} {es : List Expr} {δ : Δ} {o : O} {pos p apos : Pos} {Φ : D → O → Prop} {S : DSp} {g : Addr} {x : Str} {st : Stmt} {sts : List Stmt} {E : DE} {C : Addr} {m : Str}
/-- a datum whose type isinstance may ask -/
inductive TyAsk (K : PySem.W.Frag) (τ : Tx) : D → Value → Prop where
  | blt {d : D} (h : isB d = true) : TyAsk K τ d (.type (tyB d))
  | deck {c g : Int} (h : IsiC K τ.deck) : TyAsk K τ (.deck c g) (.ref τ.deck)
  | tape {ss : List (Str × Int)} (h : IsiC K τ.tape) : TyAsk K τ (.tape ss) (.ref τ.tape)
theorem TyAsk.tyx {K : PySem.W.Frag} {H : Hp} {v : V} {d : D} {t : Value} (a : TyAsk K τ d t) (r : R K τ H o v d) : TyX K H v t := by
  cases a with
  | blt h => exact r.tyx h
  | deck h => cases r with | deck hp hn => exact .base (.ins hp h.cl h.ha h.hn h.htk h.hm)
  | tape h => cases r with | tape hp hn rt hb nb => exact .base (.ins hp h.cl h.ha h.hn h.htk h.hm)
/-- isinstance(d, C), C an own class | a built-in one -/
def isiCS (K : PySem.W.Frag) (τ : Tx) (ds : List D) (o : O) (Φ : D → O → Prop) : Prop := ∃ d c t u b, ds = [d, c] ∧ ((∃ C, c = .ref C ∧ u = .ref C) ∨ ∃ n, c = .ty n ∧ u = .type n) ∧ TyAsk K τ d t ∧ PySem.W.kitOne K t u = some b ∧ Φ (.bl b) o
theorem isiC_no {K : PySem.W.Frag} {d : D} {C : Addr} (hb : isB d = true) (hk : PySem.W.kitOne K (.type (tyB d)) (.ref C) = some false) (h : Φ (.bl false) o) : isiCS K τ [d, .ref C] o Φ := ⟨d, .ref C, _, .ref C, false, rfl, .inl ⟨_, rfl, rfl⟩, .blt hb, hk, h⟩
theorem isiC_deck {K : PySem.W.Frag} {c g : Int} (T : IsiC K τ.deck) (h : Φ (.bl true) o) : isiCS K τ [.deck c g, .ref τ.deck] o Φ := ⟨_, _, _, _, true, rfl, .inl ⟨_, rfl, rfl⟩, .deck T, kitOne_self, h⟩
theorem isiC_tape {K : PySem.W.Frag} {ss : List (Str × Int)} (T : IsiC K τ.tape) (h : Φ (.bl true) o) : isiCS K τ [.tape ss, .ref τ.tape] o Φ := ⟨_, _, _, _, true, rfl, .inl ⟨_, rfl, rfl⟩, .tape T, kitOne_self, h⟩
theorem we_isiC (hm : X.mg "isinstance" = none) (h : WA Γ (e :: es) δ o fun ds o1 => isiCS X.K τ ds o1 Φ) (hg : Gl X "isinstance" := by rfl) (he : starEach (e :: es) X.env = (false, eval e X.env) :: starEach es X.env := by rfl) (hpl : (backTo pos (starEach es X.env)).any (·.1) = false := by rfl) : WE Γ (.Call (.Name "isinstance" p) (e :: es) [] pos) δ o Φ :=
  we_callB call_isi (fun H o vs ds Φ Q r w t k => by
    obtain ⟨d, c, t, u, b, rfl, hc, ha, hk, q⟩ := t
    cases r with
    | cons r1 r => cases r with
      | cons r2 r =>
        cases r
        rcases hc with ⟨C, rfl, rfl⟩ | ⟨n, rfl, rfl⟩
        · cases r2
          exact ⟨_, _, _, _, b, rfl, .own C, ha.tyx r1, hk, k _ _ (.here w (.bl b) q)⟩
        · cases r2
          exact ⟨_, _, _, _, b, rfl, .ty n, ha.tyx r1, hk, k _ _ (.here w (.bl b) q)⟩) hm h hg (he := he) (hpl := hpl)
/-- x(e, ..), x a local name that holds a class that is made -/
theorem wd_makeV (i : Nat) {y : Str} (F : MakD X.prog X.w X.K X.mg X.base τ x C j n S) (hi : δ[i]? = some (some (.ref C))) (h : WA Γ (e :: es) δ o fun ds o1 => ds.length + 1 = n ∧ ∀ q, o1 q = none → S (.ref q :: ds) (updO o1 q (.ins C [])) (MkEnd τ C q Φ) (MkExc Ξ δ)) (hj : j + 1 ≤ k := by decide)
    (hN : X.N[i]? = some y := by rfl) (hv : Vis X.env.scope y := by first | exact Or.inl rfl | exact Or.inr (Or.inl rfl) | exact Or.inr (Or.inr rfl)) (h1 : (y == ("__debug__" : Str)) = false := by decide) (h2 : (y == ("__classdict__" : Str)) = false := by decide)
    (he : starEach (e :: es) X.env = (false, eval e X.env) :: starEach es X.env := by rfl) (hpl : (backTo pos (starEach es X.env)).any (·.1) = false := by rfl) : WE Γ (.Call (.Name y p) (e :: es) [] pos) δ o Φ := by
  obtain ⟨f, M, F'⟩ := F.ex
  intro σ H ok pins s I
  obtain ⟨v, e1, r1⟩ := ok.slot i _ hi
  cases r1
  refine wpAny_Call_Name_kw (thn ((pe_var hN hv h1 h2).run pins s σ H (fun v H' => v = .ref C ∧ H' = H) I ⟨_, e1, rfl, rfl⟩) fun u s1 ⟨v, H1, I1, rv, e2, e3⟩ => ?_)
  subst e2 e3
  obtain rfl : u = Value.ref C := rv
  refine PySem.W.callWith_K (h₀ := X.base) I1.ok.mod.kin M.kp (thn (h σ H1 ok pos pins s1 I1) fun us s2 ⟨vs, H2, I2, r, ds, o1, w1, l1, rd, hn, q⟩ => ⟨I2.kIn, ?_⟩) he hpl
  refine thn (runMk (Post := fun q d o2 => MkEnd τ C q Φ d o2) M F' hj I2 (ok.step l1 w1) r rd hn (Q := PostE X.K τ H2 o1 Φ) ?_ ?_) fun u s2 z => EP.imp z fun v H' p => PostE.le l1 p
  · intro q0 h0
    have := q q0 h0
    have e : (fun d o2 => d = D.non ∧ MkEnd τ C q0 Φ d o2) = MkEnd τ C q0 Φ := by
      funext d o2
      exact propext ⟨fun z => z.2, fun z => ⟨z.1, z⟩⟩
    rw [e]
    exact this
  · exact fun q d o2 H2 h0 w2 l2 hp => mkEnd_ok w2 l2 hp
end
end DL

set_option Elab.async false
set_option linter.all false
set_option maxRecDepth 100000
set_option maxHeartbeats 2000000
/-! Sp1: decks: the mathematics, what each def does. -/
namespace TC
open PySem PySem.Spec PyProof.Rows L2 DL
/-! ### mathematics -/
/-- half of n * (n - 1) -/
def tri (n : Int) : Int := n * (n - 1) / 2
theorem mul_pred_even (n : Int) : n * (n - 1) % 2 = 0 := by
  rcases (show n % 2 = 0 ∨ n % 2 = 1 by omega) with h | h
  · rw [Int.mul_emod, h]; simp
  · have : (n - 1) % 2 = 0 := by omega
    rw [Int.mul_emod, this]; simp
theorem tri_two (n : Int) : 2 * tri n = n * (n - 1) := by
  have := mul_pred_even n
  unfold tri
  omega
theorem tri_succ (n : Int) : tri (n + 1) = tri n + n := by
  have h1 := tri_two (n + 1)
  have h2 := tri_two n
  have e1 : (n + 1) * (n + 1 - 1) = n * (n - 1) + 2 * n := by
    rw [show n + 1 - 1 = n by omega, Int.add_mul, Int.mul_sub, Int.one_mul, Int.mul_one]; omega
  rw [e1] at h1
  omega
theorem tri_zero : tri 0 = 0 := by decide
theorem tri_one : tri 1 = 0 := by decide
theorem tri_add (n m : Int) : tri (n + m) = tri n + tri m + n * m := by
  have h1 := tri_two (n + m)
  have h2 := tri_two n
  have h3 := tri_two m
  have e1 : (n + m) * (n + m - 1) = n * (n - 1) + m * (m - 1) + 2 * (n * m) := by
    rw [Int.mul_sub, Int.mul_sub, Int.mul_sub, Int.add_mul, Int.mul_add, Int.mul_add, Int.mul_comm m n]; omega
  rw [e1] at h1
  omega
theorem tri_nonneg {n : Int} (h : 0 ≤ n) : 0 ≤ tri n := by
  have h2 := tri_two n
  rcases (show 0 < n ∨ n ≤ 0 by omega) with h1 | h1
  · have : 0 ≤ n * (n - 1) := Int.mul_nonneg h (by omega)
    omega
  · have : n = 0 := by omega
    subst this
    decide
/-- the cells of n turns -/
def len (c g n : Int) : Int := n * c + tri n * g
structure OkDeck (c g : Int) : Prop where
  c1 : 1 ≤ c
  c2 : c ≤ 1000000000
  g1 : 0 ≤ g
  g2 : g ≤ 1000000000
theorem len_zero (c g : Int) : len c g 0 = 0 := by unfold len; rw [tri_zero]; simp
theorem len_succ (c g n : Int) : len c g (n + 1) = len c g n + (c + n * g) := by
  unfold len
  rw [tri_succ, Int.add_mul, Int.add_mul, Int.one_mul]
  omega
theorem len_add (c g n m : Int) : len c g (n + m) = len c g n + len (c + n * g) g m := by
  unfold len
  rw [tri_add, Int.add_mul, Int.add_mul, Int.add_mul, Int.mul_add, ← Int.mul_assoc, Int.mul_comm n m]
  omega
theorem len_nonneg {c g n : Int} (k : OkDeck c g) (h : 0 ≤ n) : 0 ≤ len c g n := by
  unfold len
  have h1 : 0 ≤ n * c := Int.mul_nonneg h (by have := k.c1; omega)
  have h2 : 0 ≤ tri n * g := Int.mul_nonneg (tri_nonneg h) k.g1
  omega
theorem len_lt {c g n : Int} (k : OkDeck c g) (h : 0 ≤ n) : len c g n < len c g (n + 1) := by
  rw [len_succ]
  have h1 : 0 ≤ n * g := Int.mul_nonneg h k.g1
  have := k.c1
  omega
theorem len_mono {c g n m : Int} (k : OkDeck c g) (h : 0 ≤ n) (hm : n ≤ m) : len c g n ≤ len c g m := by
  obtain ⟨d, rfl⟩ : ∃ d : Nat, m = n + d := ⟨(m - n).toNat, by omega⟩
  clear hm
  induction d with
  | zero => simp
  | succ d ih =>
    have := len_lt k (n := n + (d : Int)) (by omega)
    rw [show n + ((d + 1 : Nat) : Int) = n + (d : Int) + 1 by omega]
    omega
theorem len_smono {c g n m : Int} (k : OkDeck c g) (h : 0 ≤ n) (hm : n < m) : len c g n < len c g m := by
  have h1 := len_lt k h
  have h2 := len_mono k (n := n + 1) (m := m) (by omega) (by omega)
  omega
theorem len_ge {c g n : Int} (k : OkDeck c g) (h : 0 ≤ n) : n ≤ len c g n := by
  unfold len
  have h1 : n * 1 ≤ n * c := Int.mul_le_mul_of_nonneg_left k.c1 h
  have h2 : 0 ≤ tri n * g := Int.mul_nonneg (tri_nonneg h) k.g1
  omega
/-- n turns of a deck are the whole turns in x cells -/
def IsTurns (c g x t : Int) : Prop := 0 ≤ t ∧ len c g t ≤ x ∧ x < len c g (t + 1)
theorem IsTurns.uniq {c g x t u : Int} (k : OkDeck c g) (h : IsTurns c g x t) (h' : IsTurns c g x u) : t = u := by
  obtain ⟨a1, a2, a3⟩ := h
  obtain ⟨b1, b2, b3⟩ := h'
  rcases Int.lt_trichotomy t u with e | e | e
  · have := len_mono k (n := t + 1) (m := u) (by omega) (by omega)
    omega
  · exact e
  · have := len_mono k (n := u + 1) (m := t) (by omega) (by omega)
    omega
theorem turns_ex {c g : Int} (k : OkDeck c g) (x : Int) (hx : 0 ≤ x) : ∃ t, IsTurns c g x t := by
  have : ∀ n : Nat, x < len c g n → ∃ t, IsTurns c g x t := by
    intro n
    induction n with
    | zero => intro h; rw [show ((0 : Nat) : Int) = 0 from rfl, len_zero] at h; omega
    | succ n ih =>
      intro h
      rcases (show x < (len c g n) ∨ (len c g n) ≤ x by omega) with e | e
      · exact ih e
      · exact ⟨n, by omega, e, by rw [show ((n : Int) + 1) = ((n + 1 : Nat) : Int) by omega]; exact h⟩
  refine this (x.toNat + 1) ?_
  have := len_ge k (n := ((x.toNat + 1 : Nat) : Int)) (by omega)
  omega
open Classical in
/-- the whole turns in x cells -/
noncomputable def turns (c g x : Int) : Int := if h : ∃ t, IsTurns c g x t then h.choose else 0
theorem turns_is {c g x : Int} (k : OkDeck c g) (hx : 0 ≤ x) : IsTurns c g x (turns c g x) := by
  unfold turns
  rw [dif_pos (turns_ex k x hx)]
  exact (turns_ex k x hx).choose_spec
theorem turns_eq {c g x t : Int} (k : OkDeck c g) (h : IsTurns c g x t) : turns c g x = t := by
  have hx : 0 ≤ x := by have := len_nonneg k h.1; have := h.2.1; omega
  exact (turns_is k hx).uniq k h
theorem turns_nonneg {c g x : Int} (k : OkDeck c g) (hx : 0 ≤ x) : 0 ≤ turns c g x := (turns_is k hx).1
theorem turns_le {c g x : Int} (k : OkDeck c g) (hx : 0 ≤ x) : turns c g x ≤ x := by
  have h := turns_is k hx
  have := len_ge k h.1
  have := h.2.1
  omega
theorem turns_len {c g n : Int} (k : OkDeck c g) (h : 0 ≤ n) : turns c g (len c g n) = n := turns_eq k ⟨h, by omega, len_lt k h⟩
theorem turns_mono {c g x y : Int} (k : OkDeck c g) (hx : 0 ≤ x) (h : x ≤ y) : turns c g x ≤ turns c g y := by
  have h1 := turns_is k hx
  have h2 := turns_is k (x := y) (by omega)
  rcases (show (turns c g y) < (turns c g x) ∨ (turns c g x) ≤ (turns c g y) by omega) with e | e
  · have := len_mono k (n := turns c g y + 1) (m := turns c g x) (by have := h2.1; omega) (by omega)
    have := h1.2.1
    have := h2.2.2
    omega
  · exact e
theorem len_le_iff {c g x n : Int} (k : OkDeck c g) (hx : 0 ≤ x) (hn : 0 ≤ n) : len c g n ≤ x ↔ n ≤ turns c g x := by
  have h := turns_is k hx
  constructor
  · intro e
    rcases (show (turns c g x) < n ∨ n ≤ (turns c g x) by omega) with q | q
    · have := len_mono k (n := turns c g x + 1) (m := n) (by have := h.1; omega) (by omega)
      have := h.2.2
      omega
    · exact q
  · intro e
    have := len_mono k hn e
    have := h.2.1
    omega
/-! bounds -/
theorem abs_le {i b : Int} (h : -b ≤ i) (h2 : i ≤ b) : i.natAbs ≤ b.toNat := by omega
theorem mul_bound {a b p q : Int} (ha0 : 0 ≤ a) (ha : a ≤ p) (hb0 : 0 ≤ b) (hb : b ≤ q) : 0 ≤ a * b ∧ a * b ≤ p * q :=
  ⟨Int.mul_nonneg ha0 hb0, Int.le_trans (Int.mul_le_mul_of_nonneg_right ha hb0) (Int.mul_le_mul_of_nonneg_left hb (by omega))⟩

/-! ### what the defs do -/
/-- is a value a number within bounds -/
def isIn : D → Int → Int → Bool
  | .int i, lo, hi => decide (lo ≤ i) && decide (i ≤ hi)
  | _, _, _ => false
theorem isIn_i {i lo hi : Int} (h1 : lo ≤ i) (h2 : i ≤ hi) : isIn (.int i) lo hi = true := by
  simp [isIn, h1, h2]
theorem isIn_of {d : D} {lo hi : Int} (h : isIn d lo hi = true) : ∃ i, d = .int i ∧ lo ≤ i ∧ i ≤ hi := by
  cases d <;> first | cases h | skip
  rename_i i
  simp [isIn] at h
  exact ⟨i, rfl, h.1, h.2⟩
/-- the package's exceptions, by name -/
structure Excs where
  number : Addr
  deck : Addr
abbrev xNumber (ε : Excs) : DX := ⟨ε.number, []⟩
def S_isint : DSp := fun ds o Φ _ => ∃ d lo hi, ds = [d, .int lo, .int hi] ∧ anyD d = true ∧ Φ (.bl (isIn d lo hi)) o
def S_check (ε : Excs) : DSp := fun ds o Φ Ξ => ∃ d lo hi, ds = [d, .int lo, .int hi] ∧ anyD d = true ∧ if isIn d lo hi = true then Φ .non o else Ξ (xNumber ε) o
section
variable {o : O} {Φ : D → O → Prop} {Ξ : DX → O → Prop} {ε : Excs}
theorem use_isint {d : D} {lo hi : Int} (ha : anyD d = true) (h : Φ (.bl (isIn d lo hi)) o) : S_isint [d, .int lo, .int hi] o Φ Ξ := ⟨d, lo, hi, rfl, ha, h⟩
theorem use_check {i lo hi : Int} (h1 : lo ≤ i) (h2 : i ≤ hi) (h : Φ .non o) : S_check ε [.int i, .int lo, .int hi] o Φ Ξ := ⟨_, lo, hi, rfl, rfl, by rw [if_pos (isIn_i h1 h2)]; exact h⟩
theorem use_checkX {d : D} {lo hi : Int} (ha : anyD d = true) (h1 : isIn d lo hi = false) (h : Ξ (xNumber ε) o) : S_check ε [d, .int lo, .int hi] o Φ Ξ := ⟨_, lo, hi, rfl, ha, by rw [h1, if_neg Bool.false_ne_true]; exact h⟩
/-- a number of any kind: in bounds, or not -/
theorem use_checkD {d : D} {lo hi : Int} (ha : anyD d = true) (h1 : ∀ i, d = .int i → lo ≤ i → i ≤ hi → Φ .non o) (h2 : isIn d lo hi = false → Ξ (xNumber ε) o) : S_check ε [d, .int lo, .int hi] o Φ Ξ := by
  refine ⟨_, lo, hi, rfl, ha, ?_⟩
  cases e : isIn d lo hi with
  | true =>
    obtain ⟨i, rfl, a, b⟩ := isIn_of e
    rw [if_pos rfl]
    exact h1 i rfl a b
  | false =>
    rw [if_neg Bool.false_ne_true]
    exact h2 e
/-! decks -/
abbrev M18 : Int := 1000000000000000000
abbrev M9 : Int := 1000000000
def S_length_of : DSp := fun ds o Φ _ => ∃ c g n, ds = [.deck c g, .int n] ∧ OkDeck c g ∧ n.natAbs < 2 ^ 400 ∧ Φ (.int (len c g n)) o
theorem use_length_of {c g n : Int} (k : OkDeck c g) (hn : n.natAbs < 2 ^ 400) (h : Φ (.int (len c g n)) o) : S_length_of [.deck c g, .int n] o Φ Ξ := ⟨c, g, n, rfl, k, hn, h⟩
def S_turns_in : DSp := fun ds o Φ _ => ∃ c g n, ds = [.deck c g, .int n] ∧ OkDeck c g ∧ 0 ≤ n ∧ n.natAbs < 2 ^ 400 ∧ Φ (.int (turns c g n)) o
theorem use_turns_in {c g n : Int} (k : OkDeck c g) (h0 : 0 ≤ n) (hn : n.natAbs < 2 ^ 400) (h : Φ (.int (turns c g n)) o) : S_turns_in [.deck c g, .int n] o Φ Ξ := ⟨c, g, n, rfl, k, h0, hn, h⟩
/-- a method of a deck and a number from 0 to 10 ** 18 -/
def S_num (ε : Excs) (f : Int → Int → Int → D) : DSp := fun ds o Φ Ξ => ∃ c g d, ds = [.deck c g, d] ∧ OkDeck c g ∧ anyD d = true ∧ if isIn d 0 M18 = true then ∃ n, d = .int n ∧ 0 ≤ n ∧ n ≤ M18 ∧ Φ (f c g n) o else Ξ (xNumber ε) o
theorem use_num {f : Int → Int → Int → D} {c g n : Int} (k : OkDeck c g) (h0 : 0 ≤ n) (hn : n ≤ M18) (h : Φ (f c g n) o) : S_num ε f [.deck c g, .int n] o Φ Ξ := ⟨c, g, _, rfl, k, rfl, by rw [if_pos (isIn_i h0 hn)]; exact ⟨n, rfl, h0, hn, h⟩⟩
noncomputable def S_call (ε : Excs) : DSp := S_num ε fun c g n => .int (turns c g n)
def S_getitem (ε : Excs) : DSp := S_num ε fun c g n => .int (c + n * g)
def S_cells (ε : Excs) : DSp := S_num ε fun c g n => .int (len c g n)
def S_cells_at (ε : Excs) : DSp := S_num ε fun c g n => .tup [.int (len c g n), .int (len c g (n + 1) - 1)]
def S_core : DSp := fun ds o Φ _ => ∃ c g, ds = [.deck c g] ∧ Φ (.int c) o
def S_growth : DSp := fun ds o Φ _ => ∃ c g, ds = [.deck c g] ∧ Φ (.int g) o
def S_eq : DSp := fun ds o Φ _ => ∃ c g c' g', ds = [.deck c g, .deck c' g'] ∧ Φ (.bl (decide (c = c') && decide (g = g'))) o
def S_Deck_init (τ : Tx) (ε : Excs) : DSp := fun ds o Φ Ξ => ∃ q d1 d2, ds = [.ref q, d1, d2] ∧ o q = some (.ins τ.deck []) ∧ anyD d1 = true ∧ anyD d2 = true ∧
  if isIn d1 1 M9 = true then (if isIn d2 0 M9 = true then ∃ c g, d1 = .int c ∧ d2 = .int g ∧ OkDeck c g ∧ Φ .non (updO o q (.ins τ.deck [("first", .int c), ("more", .int g)])) else Ξ ⟨ε.deck, [("part", .str "growth")]⟩ o) else Ξ ⟨ε.deck, [("part", .str "core")]⟩ o
/-- Deck(c, g): what it gives, whatever the arguments -/
def deckMk (ε : Excs) (d1 d2 : D) (o : O) (Φ : D → O → Prop) (Ξ : DX → O → Prop) : Prop :=
  if isIn d1 1 M9 = true then (if isIn d2 0 M9 = true then ∃ c g, d1 = .int c ∧ d2 = .int g ∧ OkDeck c g ∧ Φ (.deck c g) o else Ξ ⟨ε.deck, [("part", .str "growth")]⟩ o) else Ξ ⟨ε.deck, [("part", .str "core")]⟩ o
theorem deckMk_ok {c g : Int} (k : OkDeck c g) (h : Φ (.deck c g) o) : deckMk ε (.int c) (.int g) o Φ Ξ := by
  unfold deckMk
  rw [if_pos (isIn_i k.c1 k.c2), if_pos (isIn_i k.g1 k.g2)]
  exact ⟨c, g, rfl, rfl, k, h⟩
theorem use_Deck_init {τ : Tx} {δ : Δ} {q : Addr} {Ξ' : DX → Δ → O → Prop} {d1 d2 : D} (hq : o q = none) (h : deckMk ε d1 d2 o Φ fun x o' => Ξ' x δ o') (a1 : anyD d1 = true := by rfl) (a2 : anyD d2 = true := by rfl) :
    S_Deck_init τ ε [.ref q, d1, d2] (updO o q (.ins τ.deck [])) (MkEnd τ τ.deck q Φ) (MkExc Ξ' δ) := by
  refine ⟨q, d1, d2, rfl, updO_same, a1, a2, ?_⟩
  unfold deckMk at h
  split at h
  · rename_i e1
    rw [if_pos e1]
    split at h
    · rename_i e2
      rw [if_pos e2]
      obtain ⟨c, g, rfl, rfl, k, h⟩ := h
      refine ⟨c, g, rfl, rfl, k, ?_⟩
      rw [updO_updO]
      exact seal_deck rfl rfl hq h
    · rename_i e2
      rw [if_neg e2]
      exact ⟨o, updO_less hq, h⟩
  · rename_i e1
    rw [if_neg e1]
    exact ⟨o, updO_less hq, h⟩
def S_later (ε : Excs) : DSp := fun ds o Φ Ξ => ∃ c g d, ds = [.int c, .int g, d] ∧ OkDeck c g ∧ anyD d = true ∧ if isIn d 0 M18 = true then ∃ n, d = .int n ∧ 0 ≤ n ∧ n ≤ M18 ∧ deckMk ε (.int (c + n * g)) (.int g) o Φ Ξ else Ξ (xNumber ε) o
def S_rshift (ε : Excs) : DSp := fun ds o Φ Ξ => ∃ c g d, ds = [.deck c g, d] ∧ OkDeck c g ∧ anyD d = true ∧ if isIn d 0 M18 = true then ∃ n, d = .int n ∧ 0 ≤ n ∧ n ≤ M18 ∧ deckMk ε (.int (c + n * g)) (.int g) o Φ Ξ else Ξ (xNumber ε) o
noncomputable def S_rrange (ε : Excs) : DSp := fun ds o Φ Ξ => ∃ c g c' g' d, ds = [.deck c g, .deck c' g', d] ∧ OkDeck c g ∧ OkDeck c' g' ∧ anyD d = true ∧
  if isIn d 0 M18 = true then ∃ n, d = .int n ∧ 0 ≤ n ∧ n ≤ M18 ∧ Φ (.tup [.int (turns c' g' (len c g n)), .int (turns c' g' (len c g (n + 1) - 1))]) o else Ξ (xNumber ε) o
def minI (i j : Int) : Int := if j < i then j else i
def unlikeD (c g c' g' : Int) : D := if c ≠ c' then .int (minI c c') else if g ≠ g' then .int (2 * c + minI g g') else .non
def S_unlike : DSp := fun ds o Φ _ => ∃ c g c' g', ds = [.deck c g, .deck c' g'] ∧ OkDeck c g ∧ Φ (unlikeD c g c' g') o
/-- Deck.of_turns(first, second) -/
def S_of_turns (τ : Tx) (ε : Excs) : DSp := fun ds o Φ Ξ => ∃ d1 d2, ds = [.ref τ.deck, d1, d2] ∧ anyD d1 = true ∧ anyD d2 = true ∧
  if isIn d1 1 M9 = true then ∃ c, d1 = .int c ∧ 1 ≤ c ∧ c ≤ M9 ∧ (if isIn d2 c (c + M9) = true then ∃ b, d2 = .int b ∧ c ≤ b ∧ b ≤ c + M9 ∧ Φ (.deck c (b - c)) o else Ξ ⟨ε.deck, [("part", .str "growth")]⟩ o) else Ξ ⟨ε.deck, [("part", .str "core")]⟩ o
/-- deck == other -/
def eqDeck (c g : Int) : D → Bool
  | .deck c' g' => decide (c = c') && decide (g = g')
  | _ => false
def isDeckOr : D → Bool
  | .deck _ _ => true
  | d => anyD d
def S_deck_eq : DSp := fun ds o Φ _ => ∃ c g d, ds = [.deck c g, d] ∧ isDeckOr d = true ∧ Φ (.bl (eqDeck c g d)) o
/-- a check of a number, then what is wanted -/
theorem use_num' {d : D} {lo hi : Int} {A : Int → Prop} (ha : anyD d = true) (h : if isIn d lo hi = true then ∃ n, d = .int n ∧ lo ≤ n ∧ n ≤ hi ∧ A n else Ξ (xNumber ε) o) (k : ∀ n, d = .int n → lo ≤ n → n ≤ hi → A n → Φ .non o) : S_check ε [d, .int lo, .int hi] o Φ Ξ := by
  refine ⟨_, lo, hi, rfl, ha, ?_⟩
  split at h
  · rename_i e
    rw [if_pos e]
    obtain ⟨n, e1, h0, h1, h2⟩ := h
    exact k n e1 h0 h1 h2
  · rename_i e
    rw [if_neg e]
    exact h
theorem nab18 {n : Int} (h0 : 0 ≤ n) (h1 : n ≤ M18) : n.natAbs < 2 ^ 400 := by
  have : n ≤ 1000000000000000000 := h1
  omega
theorem nab18' {n : Int} (h0 : 0 ≤ n) (h1 : n ≤ M18) : (n + 1).natAbs < 2 ^ 400 := by
  have : n ≤ 1000000000000000000 := h1
  omega
theorem len_bound {c g n : Int} (k : OkDeck c g) (h0 : 0 ≤ n) (h1 : n ≤ 2000000000000000000) : len c g n ≤ 4000000000000000000000000000000000000000000000 := by
  unfold len
  have a1 := mul_bound h0 h1 (show 0 ≤ c by have := k.c1; omega) k.c2
  have a2 : tri n ≤ 2000000000000000000000000000000000000 := by
    have h2 := tri_two n
    rcases (show n = 0 ∨ 1 ≤ n by omega) with e | e
    · subst e; rw [tri_zero]; decide
    · have := (mul_bound h0 h1 (show 0 ≤ n - 1 by omega) (show n - 1 ≤ 2000000000000000000 by omega)).2
      omega
  have a3 := mul_bound (tri_nonneg h0) a2 k.g1 k.g2
  omega
theorem len_nab {c g n : Int} (k : OkDeck c g) (h0 : 0 ≤ n) (h1 : n ≤ M18) : (len c g n).natAbs < 2 ^ 400 := by
  have h2 : n ≤ 1000000000000000000 := h1
  have := len_bound k h0 (by omega)
  have := len_nonneg k h0
  omega
theorem len_nab' {c g n : Int} (k : OkDeck c g) (h0 : 0 ≤ n) (h1 : n ≤ M18) : (len c g (n + 1) - 1).natAbs < 2 ^ 400 := by
  have h2 : n ≤ 1000000000000000000 := h1
  have := len_bound k (n := n + 1) (by omega) (by omega)
  have := len_nonneg k (n := n + 1) (by omega)
  omega
theorem turns_div {c g x : Int} (k : OkDeck c g) (hx : 0 ≤ x) : turns c g x ≤ x / c := by
  have h := turns_is k hx
  have c1 := k.c1
  rw [Int.le_ediv_iff_mul_le (by omega)]
  have h1 := h.2.1
  unfold len at h1
  have h2 : 0 ≤ tri (turns c g x) * g := Int.mul_nonneg (tri_nonneg h.1) k.g1
  omega
theorem mul_w2 {n : Int} (h : n.natAbs < 2 ^ 400) : IntMulOk n (n - 1) := CMulW.ok (wide_mul (a := 400) (b := 401) h (by omega) (by decide) (by decide) (by decide))
/-- the int in a slot -/
def gi (δ : Δ) (i : Nat) : Int := match δ[i]? with | some (some (.int n)) => n | _ => 0
end
/-! ### what the text says -/
/-- built-in names that the text leaves alone -/
structure Blt (mg : Str → Option Value) : Prop where
  m_isinstance : mg "isinstance" = none
  m_int : mg "int" = none
  m_bool : mg "bool" = none
  m_len : mg "len" = none
  m_range : mg "range" = none
  m_min : mg "min" = none
  m_max : mg "max" = none
  m_abs : mg "abs" = none
  m_sum : mg "sum" = none
  m_list : mg "list" = none
  m_tuple : mg "tuple" = none
  m_set : mg "set" = none
  m_sorted : mg "sorted" = none
  m_dict : mg "dict" = none
  m_enumerate : mg "enumerate" = none
  m_zip : mg "zip" = none
  m_all : mg "all" = none
  m_any : mg "any" = none
  m_str : mg "str" = none
  m_bytes : mg "bytes" = none
structure TDeck (K : PySem.W.Frag) (mg : Str → Option Value) (τ : Tx) : Prop where
  cx : ClsX K τ.deck ["first", "more"]
  maxc : ∃ t, mg "MAX_CORE_decks" = some (.int 1000000000 t)
  maxn : ∃ t, mg "MAX_NUMBER" = some (.int 1000000000000000000 t)
  isi : IsiC K τ.deck
  g : mg "Deck" = some (.ref τ.deck)
  kit : ∀ t ∈ (["NoneType", "bool", "int", "str", "tuple", "list"] : List String), PySem.W.kitOne K (.type t) (.ref τ.deck) = some false
/-! ### the draws of a law -/
def rowL (ns : List Int) (i s t : Int) : List D := [.scr ns, .int i, .int s, .int t]
/-- the row of draws stands at r -/
def Rowed (r : Addr) (ns : List Int) (o : O) : Prop := ∃ i s t, 0 ≤ i ∧ o r = some (.lst (rowL ns i s t))
/-- nothing but the object at r has changed -/
def But (r : Addr) (o o' : O) : Prop := ∀ a, a ≠ r → o' a = o a
theorem But.refl {r : Addr} {o : O} : But r o o := fun _ _ => rfl
theorem But.trans {r : Addr} {o o1 o2 : O} (a : But r o o1) (b : But r o1 o2) : But r o o2 := fun x h => (b x h).trans (a x h)
theorem But.upd {r : Addr} {o : O} {x : OS} : But r o (updO o r x) := fun _ h => updO_ne h
theorem Rowed.upd {r : Addr} {ns : List Int} {o : O} {i s t : Int} (h : 0 ≤ i) : Rowed r ns (updO o r (.lst (rowL ns i s t))) := ⟨i, s, t, h, updO_same⟩
/-- a number is drawn -/
def S_taken : DSp := fun ds o Φ _ => ∃ r ns many, ds = [.ref r, .int many] ∧ Rowed r ns o ∧ 0 < many ∧ many < 18446744073709551616 ∧ ∀ n o', 0 ≤ n → n < many → Rowed r ns o' → But r o o' → Φ (.int n) o'
theorem use_taken {r : Addr} {ns : List Int} {many : Int} {o : O} {Φ : D → O → Prop} {Ξ : DX → O → Prop} (hr : Rowed r ns o) (h : ∀ n o', 0 ≤ n → n < many → Rowed r ns o' → But r o o' → Φ (.int n) o') (h0 : 0 < many := by omega) (h1 : many < 18446744073709551616 := by omega) : S_taken [.ref r, .int many] o Φ Ξ := ⟨r, ns, many, rfl, hr, h0, h1, h⟩
/-- a number up to a great bound -/
def S_great : DSp := fun ds o Φ _ => ∃ r ns many, ds = [.ref r, .int many] ∧ Rowed r ns o ∧ 0 < many ∧ ∀ n o', 0 ≤ n → n < many → Rowed r ns o' → But r o o' → Φ (.int n) o'
/-- a deck is drawn -/
def S_ldeck : DSp := fun ds o Φ _ => ∃ r ns most, ds = [.ref r, .int most] ∧ Rowed r ns o ∧ 4 < most ∧ most ≤ 1000000000 ∧ ∀ c g o', 1 ≤ c → c ≤ most → 0 ≤ g → g < most → Rowed r ns o' → But r o o' → Φ (.deck c g) o'
theorem use_ldeck {r : Addr} {ns : List Int} {most : Int} {o : O} {Φ : D → O → Prop} {Ξ : DX → O → Prop} (hr : Rowed r ns o) (h : ∀ c g o', 1 ≤ c → c ≤ most → 0 ≤ g → g < most → Rowed r ns o' → But r o o' → Φ (.deck c g) o') (h0 : 4 < most := by omega) (h1 : most ≤ 1000000000 := by omega) : S_ldeck [.ref r, .int most] o Φ Ξ := ⟨r, ns, most, rfl, hr, h0, h1, h⟩
/-- a law: True comes out -/
def S_law : DSp := fun ds o Φ _ => ∃ ns, ds = [.scr ns] ∧ ns.length ≤ 63 ∧ ∀ o', Φ (.bl true) o'
def spLaw (K : PySem.W.Frag) : Sp := fun vs H Q _ => ∃ (a : Addr) (ns : List Int), vs = [.ref a] ∧ SqL K H a (ns.map V.int) ∧ ns.length ≤ 63 ∧ ∀ H', Q (.bl true) H'
theorem law_end {P : Program} {w : World} {K : PySem.W.Frag} {mg : Str → Option Value} {base : Heap} {τ : Tx} {k : Nat} {f : Addr} {fd : FuncData} {ps : List Str} (F : FnOk P w K mg base (L2.CX P w) k f fd ps (spD K τ 1 S_law)) : FnOk P w K mg base CX0 k f fd ps (spLaw K) := by
  have to : ∀ vs H Q, spLaw K vs H Q (fun _ _ _ => False) → spD K τ 1 S_law vs H Q (fun _ _ _ => False) := fun vs H Q ⟨a, ns, e, hS, hl, hQ⟩ => by
    subst e
    refine ⟨[.scr ns], fun _ => none, fun d _ => d = .bl true, fun _ _ => False, .cons (.scr ?_) .nil, (fun a x z => by cases z), rfl, ⟨ns, rfl, hl, fun _ => rfl⟩, fun v H' ⟨d, o', _, _, r, e⟩ => ?_, fun _ _ _ _ _ _ _ _ f => f⟩
    · rcases hS with h | h
      · exact .inl ⟨h, rfl⟩
      · exact .inr (.inr h)
    · subst e
      cases r
      exact hQ H'
  refine ⟨fun vs H Q E h => F.len vs H Q _ (to vs H Q h), fun A outer s H args us vs Q E hr e0 hb r hsp => ?_⟩
  refine codeAny_mono (F.run A outer s H args us vs Q (fun _ _ _ => False) hr e0 hb r (to vs H Q hsp)) fun r s' hq => ?_
  cases r with
  | error e => obtain ⟨_, _, _, _, _, _, _, _, _, _, _, _, f⟩ := hq; exact f.elim
  | ok fl => cases fl <;> exact hq
section
variable {X : Cx} {τ : Tx} {k : Nat} {Ξ : DX → Δ → O → Prop} {Γ : Gm X τ k Ξ} {δ : Δ} {o : O}
theorem fits {n : Nat} (h : Nat.ble n 1000 = true) : n ≤ sizeLine := Nat.le_trans (Nat.le_of_ble_eq_true h) (by decide)
/-- a method of a deck, a tape -/
theorem on_deck {c g : Int} {m : Str} {Z : Prop} (h : Z) (hm : m ∉ (["first", "more"] : List Str) := by decide +kernel) : ∃ ns, InsD τ o (.deck c g) τ.deck ns ∧ m ∉ ns ∧ Z := ⟨_, .deck _ _, hm, h⟩
theorem is_deck {c g : Int} : ∃ ns, InsD τ o (.deck c g) τ.deck ns := ⟨_, .deck _ _⟩
theorem on_tape {ss : List (Str × Int)} {m : Str} {Z : Prop} (h : Z) (hm : m ∉ (["listed", "begins", "total"] : List Str) := by decide +kernel) : ∃ ns, InsD τ o (.tape ss) τ.tape ns ∧ m ∉ ns ∧ Z := ⟨_, .tape _, hm, h⟩
theorem is_tape {ss : List (Str × Int)} : ∃ ns, InsD τ o (.tape ss) τ.tape ns := ⟨_, .tape _⟩
theorem we_str_arg {y : Str} {j pos} {C : Addr} {f : Str} (h : Ξ ⟨C, [(f, .str y)]⟩ δ o) (hl : y.length ≤ 1000 := by decide +kernel) : WA Γ [.Constant (.str y) j pos] δ o fun ds o1 => ∃ d, ds = [d] ∧ fmtD d ∧ Ξ ⟨C, [(f, d)]⟩ δ o1 := wa_cons (we_str (wa_nil ⟨_, rfl, hl, h⟩))
theorem lenS_scr {ns : List Int} {Φ : D → O → Prop} (h : Φ (.int ns.length) o) : lenS [.scr ns] o Φ := h
theorem lenS_l {ds : List D} {Φ : D → O → Prop} (h : Φ (.int ds.length) o) : lenS [.lst ds] o Φ := h
theorem lenS_t {ds : List D} {Φ : D → O → Prop} (h : Φ (.int ds.length) o) : lenS [.tup ds] o Φ := h
theorem lenS_s {z : Str} {Φ : D → O → Prop} (hl : z.length ≤ sizeLine) (h : Φ (.int z.length) o) : lenS [.str z] o Φ := ⟨hl, h⟩
theorem lenS_r {q : Addr} {ds : List D} {Φ : D → O → Prop} (hq : o q = some (.lst ds)) (h : Φ (.int ds.length) o) : lenS [.ref q] o Φ := ⟨ds, hq, h⟩
end
end TC

set_option Elab.async false
set_option linter.all false
set_option maxRecDepth 100000
set_option maxHeartbeats 4000000
namespace TC
open PySem PySem.Spec PyProof.Rows L2 DL
def top (i : Nat) : Stmt := PySem.Challenge.pw_tapecounters_k11_whole_later_decks.main.body.getD i (.Pass ⟨0, 0, 0, 0⟩)
section
variable {P : Program} {w : World} {K : PySem.W.Frag} {mg : Str → Option Value} {base : Heap} {τ : Tx} {ε : Excs}
abbrev s_isint : Stmt := top 7
theorem sc_isint : FnScope ["value", "low", "high"] ["value", "low", "high"] (defScope s_isint) := ⟨rfl, rfl, rfl, by decide +kernel, rfl, by decide +kernel, by decide +kernel⟩
theorem ok_isint {f : Addr} {fd : FuncData} (F : Fun K "is_integer" "is_integer" s_isint f fd) (B : Blt mg) : FnOk P w K mg base (L2.CX P w) 1 f fd ["value", "low", "high"] (spD K τ 3 S_isint) := by
  refine fnD F sc_isint fun cdv A outer s H E Ξ Γ ds o Φ hl hS => ?_
  obtain ⟨d, lo, hi, rfl, ha, hΦ⟩ := hS
  refine wss_one (ws_ret (we_and (we_isi B.m_isinstance (wa_cons (we_var 0 rfl (wa_cons (we_bty (T := "int") B.m_int (wa_nil ?_))))))))
  refine isi_int ha (fun i e => ?_) (fun i e => ?_) (fun n1 n2 => ?_)
  · subst e
    refine ⟨_, rfl, iteT ?_⟩
    refine we_and (we_not (we_isi B.m_isinstance (wa_cons (we_var 0 rfl (wa_cons (we_bty (T := "bool") B.m_bool (wa_nil ⟨_, _, _, rfl, rfl, kit_ib, _, rfl, _, rfl, iteT ?_⟩)))))))
    refine we_one (we_lele (we_var 1 rfl (we_var 0 rfl ⟨_, _, rfl, rfl, ?_⟩)))
    refine ite2 (fun h => ?_) (fun h => ?_)
    · refine we_var 2 rfl ⟨_, rfl, ?_⟩
      show Φ _ o
      have e : isIn (.int i) lo hi = decide (i ≤ hi) := by simp [isIn, of_decide_eq_true h]
      rw [← e]
      exact hΦ
    · have e : isIn (.int i) lo hi = false := by
        have : ¬ lo ≤ i := fun z => h (decide_eq_true z)
        simp [isIn, this]
      show Φ _ o
      rw [← e]
      exact hΦ
  · subst e
    refine ⟨_, rfl, iteT ?_⟩
    exact we_and (we_not (we_isi B.m_isinstance (wa_cons (we_var 0 rfl (wa_cons (we_bty (T := "bool") B.m_bool (wa_nil ⟨_, _, _, rfl, rfl, kit_bb, _, rfl, _, rfl, iteF hΦ⟩)))))))
  · refine ⟨_, rfl, iteF ?_⟩
    have e : isIn d lo hi = false := by cases d <;> first | rfl | exact absurd rfl (n1 _)
    show Φ _ o
    rw [← e]
    exact hΦ
abbrev s_check : Stmt := top 8
theorem sc_check : FnScope ["number", "low", "high"] ["number", "low", "high"] (defScope s_check) := ⟨rfl, rfl, rfl, by decide +kernel, rfl, by decide +kernel, by decide +kernel⟩
theorem ok_check {f : Addr} {fd : FuncData} (F : Fun K "check_number" "check_number" s_check f fd) (B : Blt mg) (G1 : DefD P w K mg base τ "is_integer" 1 3 S_isint) (xN : ExcN K mg "InvalidNumber" ε.number) : FnOk P w K mg base (L2.CX P w) 2 f fd ["number", "low", "high"] (spD K τ 3 (S_check ε)) := by
  refine fnD F sc_check fun cdv A outer s H E Ξ Γ ds o Φ hl hS => ?_
  obtain ⟨d, lo, hi, rfl, ha, hΦ⟩ := hS
  refine wss_one (ws_if (wt_not (wt_val (wd_call G1 (wa_cons (we_var 0 rfl (wa_cons (we_var 1 rfl (wa_cons (we_var 2 rfl (wa_nil ⟨rfl, use_isint ha ⟨_, rfl, ?_⟩⟩)))))))))))
  cases e : isIn d lo hi with
  | true =>
    rw [e] at hΦ
    rw [if_pos rfl] at hΦ
    exact iteF (wss_nil hΦ)
  | false =>
    rw [e, if_neg Bool.false_ne_true] at hΦ
    exact iteT (wss_one (ws_raiseN xN hΦ))
abbrev s_Deck_init : Stmt := inClass (top 9) 1
theorem sc_Deck_init : FnScope ["self", "core", "growth"] ["self", "core", "growth"] (defScope s_Deck_init) := ⟨rfl, rfl, rfl, by decide +kernel, rfl, by decide +kernel, by decide +kernel⟩
theorem ok_Deck_init {f : Addr} {fd : FuncData} (F : Fun K "__init__" "Deck.__init__" s_Deck_init f fd) (B : Blt mg) (T : TDeck K mg τ) (G1 : DefD P w K mg base τ "is_integer" 1 3 S_isint) (xD : ExcF P w K mg base "InvalidDeck" ε.deck "part") : FnOk P w K mg base (L2.CX P w) 3 f fd ["self", "core", "growth"] (spD K τ 3 (S_Deck_init τ ε)) := by
  refine fnD F sc_Deck_init fun cdv A outer s H E Ξ Γ ds o Φ hl hS => ?_
  obtain ⟨q, d1, d2, rfl, hq, a1, a2, hΦ⟩ := hS
  obtain ⟨t, hM⟩ := T.maxc
  refine wss_cons (ws_if (wt_not (wt_val (wd_call G1 (wa_cons (we_var 1 rfl (wa_cons (we_int (wa_cons (we_globI hM (wa_nil ⟨rfl, use_isint a1 ⟨_, rfl, ?_⟩⟩)))))))))))
  cases e1 : isIn d1 1 M9 with
  | false =>
    rw [e1, if_neg Bool.false_ne_true] at hΦ
    exact iteT (wss_one (ws_raiseF xD (we_str_arg hΦ)))
  | true =>
    rw [e1, if_pos rfl] at hΦ
    refine iteF (wss_nil ?_)
    refine wss_cons (ws_if (wt_not (wt_val (wd_call G1 (wa_cons (we_var 2 rfl (wa_cons (we_int (wa_cons (we_globI hM (wa_nil ⟨rfl, use_isint a2 ⟨_, rfl, ?_⟩⟩)))))))))))
    cases e2 : isIn d2 0 M9 with
    | false =>
      rw [e2, if_neg Bool.false_ne_true] at hΦ
      exact iteT (wss_one (ws_raiseF xD (we_str_arg hΦ)))
    | true =>
      rw [e2, if_pos rfl] at hΦ
      obtain ⟨c, g, rfl, rfl, k, hΦ⟩ := hΦ
      refine iteF (wss_nil ?_)
      refine wss_cons (ws_fld (we_var 1 rfl (we_var 0 rfl ⟨_, _, _, rfl, hq, T.cx.cl, T.cx.no _ (by decide +kernel), Nat.lt_of_le_of_lt (Nat.le_of_ble_eq_true (n := _) (m := 9) rfl) (by decide), ?_⟩)))
      refine wss_one (ws_fld (we_var 2 rfl (we_var 0 rfl ⟨_, _, _, rfl, updO_same, T.cx.cl, T.cx.no _ (by decide +kernel), Nat.lt_of_le_of_lt (Nat.le_of_ble_eq_true (n := _) (m := 9) rfl) (by decide), ?_⟩)))
      show Φ .non _
      rw [updO_updO]
      exact hΦ
abbrev s_core : Stmt := inClass (top 9) 3
theorem sc_core : FnScope ["self"] ["self"] (defScope s_core) := ⟨rfl, rfl, rfl, by decide +kernel, rfl, by decide +kernel, by decide +kernel⟩
theorem ok_core {f : Addr} {fd : FuncData} (F : Fun K "core" "Deck.core" s_core f fd) (T : TDeck K mg τ) : FnOk P w K mg base (L2.CX P w) 1 f fd ["self"] (spD K τ 1 S_core) := by
  refine fnD F sc_core fun cdv A outer s H E Ξ Γ ds o Φ hl hS => ?_
  obtain ⟨c, g, rfl, hΦ⟩ := hS
  exact wss_one (ws_ret (we_fld (we_var 0 rfl (wd_first T.cx hΦ))))
abbrev s_growth : Stmt := inClass (top 9) 4
theorem sc_growth : FnScope ["self"] ["self"] (defScope s_growth) := ⟨rfl, rfl, rfl, by decide +kernel, rfl, by decide +kernel, by decide +kernel⟩
theorem ok_growth {f : Addr} {fd : FuncData} (F : Fun K "growth" "Deck.growth" s_growth f fd) (T : TDeck K mg τ) : FnOk P w K mg base (L2.CX P w) 1 f fd ["self"] (spD K τ 1 S_growth) := by
  refine fnD F sc_growth fun cdv A outer s H E Ξ Γ ds o Φ hl hS => ?_
  obtain ⟨c, g, rfl, hΦ⟩ := hS
  exact wss_one (ws_ret (we_fld (we_var 0 rfl (wd_more T.cx hΦ))))
abbrev s_getitem : Stmt := inClass (top 9) 6
theorem sc_getitem : FnScope ["self", "turn"] ["self", "turn"] (defScope s_getitem) := ⟨rfl, rfl, rfl, by decide +kernel, rfl, by decide +kernel, by decide +kernel⟩
theorem ok_getitem {f : Addr} {fd : FuncData} (F : Fun K "__getitem__" "Deck.__getitem__" s_getitem f fd) (B : Blt mg) (T : TDeck K mg τ) (G1 : DefD P w K mg base τ "is_integer" 1 3 S_isint) (xN : ExcN K mg "InvalidNumber" ε.number) : FnOk P w K mg base (L2.CX P w) 2 f fd ["self", "turn"] (spD K τ 2 (S_getitem ε)) := by
  refine fnD F sc_getitem fun cdv A outer s H E Ξ Γ ds o Φ hl hS => ?_
  obtain ⟨c, g, d, rfl, k, ha, hΦ⟩ := hS
  obtain ⟨t, hM⟩ := T.maxn
  refine wss_cons (ws_if (wt_not (wt_val (wd_call G1 (wa_cons (we_var 1 rfl (wa_cons (we_int (wa_cons (we_globI hM (wa_nil ⟨rfl, use_isint ha ⟨_, rfl, ?_⟩⟩)))))))))))
  cases e : isIn d 0 M18 with
  | false =>
    rw [e, if_neg Bool.false_ne_true] at hΦ
    exact iteT (wss_one (ws_raiseN xN hΦ))
  | true =>
    rw [e, if_pos rfl] at hΦ
    obtain ⟨n, rfl, h0, h1, hΦ⟩ := hΦ
    refine iteF (wss_nil ?_)
    have h2 : n < 18446744073709551616 := by have : n ≤ 1000000000000000000 := h1; omega
    exact wss_one <| ws_ret <| we_add <| we_fld <| we_var 0 rfl <| wd_first T.cx <| we_mul <| we_var 1 rfl <| we_fld <| we_var 0 rfl <| wd_more T.cx <| mulS_i (mul_l (by omega) h2) <| addS_i hΦ
abbrev s_length_of : Stmt := inClass (top 9) 10
theorem sc_length_of : FnScope ["self", "turns"] ["self", "turns"] (defScope s_length_of) := ⟨rfl, rfl, rfl, by decide +kernel, rfl, by decide +kernel, by decide +kernel⟩
theorem ok_length_of {f : Addr} {fd : FuncData} (F : Fun K "length_of" "Deck.length_of" s_length_of f fd) (T : TDeck K mg τ) : FnOk P w K mg base (L2.CX P w) 1 f fd ["self", "turns"] (spD K τ 2 S_length_of) := by
  refine fnD F sc_length_of fun cdv A outer s H E Ξ Γ ds o Φ hl hS => ?_
  obtain ⟨c, g, n, rfl, k, hb, hΦ⟩ := hS
  have c1 := k.c1
  have c2 := k.c2
  have g1 := k.g1
  have g2 := k.g2
  have hb2 : (n - 1).natAbs < 2 ^ 400 + 1 := by omega
  exact wss_one <| ws_ret <| we_add <| we_mul <| we_var 1 rfl <| we_fld <| we_var 0 rfl <| wd_first T.cx <| mulS_i (mul_r (by omega) (by omega)) <| we_mul <| we_fdiv <| we_mul <| we_var 1 rfl <| we_sub <| we_var 1 rfl <| we_int <| subS_i <|
    mulS_i (mul_w2 hb) <| we_int <| fdivS_i (div_s (by omega) (by omega)) <| we_fld <| we_var 0 rfl <| wd_more T.cx <| mulS_i (mul_r (by omega) (by omega)) <| addS_i hΦ
abbrev s_turns_in : Stmt := inClass (top 9) 12
theorem sc_turns_in : FnScope ["self", "cell", "low", "high", "middle"] ["self", "cell"] (defScope s_turns_in) := ⟨rfl, rfl, rfl, by decide +kernel, rfl, by decide +kernel, by decide +kernel⟩
theorem ok_turns_in {f : Addr} {fd : FuncData} (F : Fun K "turns_in" "Deck.turns_in" s_turns_in f fd) (T : TDeck K mg τ) (G : MetD P w K mg base τ τ.deck "length_of" 1 2 S_length_of) : FnOk P w K mg base (L2.CX P w) 2 f fd ["self", "cell"] (spD K τ 2 S_turns_in) := by
  refine fnD F sc_turns_in fun cdv A outer s H E Ξ Γ ds o Φ hl hS => ?_
  obtain ⟨c, g, x, rfl, k, hx, hb, hΦ⟩ := hS
  have c1 := k.c1
  have c2 := k.c2
  have ht := turns_div k hx
  have hd : x / c ≤ x := Int.ediv_le_self c hx
  have hd0 : 0 ≤ x / c := Int.ediv_nonneg hx (by omega)
  refine wss_cons <| ws_par 2 3 <| wa_cons <| we_int <| wa_cons <| we_fdiv <| we_var 1 rfl <| we_fld <| we_var 0 rfl <| wd_first T.cx <| fdivS_i (div_s (by omega) (by omega)) <| wa_nil ⟨_, _, rfl, ?_⟩
  refine wss_cons (ws_while (fun δ' o' => o' = o ∧ ∃ lo hi m, δ' = [some (.deck c g), some (.int x), some (.int lo), some (.int hi), m] ∧ 0 ≤ lo ∧ lo ≤ turns c g x ∧ turns c g x ≤ hi ∧ hi ≤ x) (fun δ' _ => (gi δ' 3 - gi δ' 2).toNat) ⟨rfl, 0, x / c, none, rfl, by omega, turns_nonneg k hx, ht, hd⟩ ?_)
  rintro δ' o' ⟨rfl, lo, hi, m, rfl, h0, h1, h2, h3⟩
  refine wt_c <| wc_lt <| we_var 2 rfl <| we_var 3 rfl <| ltS_i ⟨_, rfl, ?_⟩
  refine ite2 (fun h => ?_) (fun h => ?_)
  · have h : lo < hi := of_decide_eq_true h
    refine wss_cons <| ws_set 4 <| we_fdiv <| we_add <| we_add <| we_var 2 rfl <| we_var 3 rfl <| addS_i <| we_int <| addS_i <| we_int <| fdivS_i (div_s (by omega) (by omega)) ?_
    have hm : lo < (lo + hi + 1) / 2 ∧ (lo + hi + 1) / 2 ≤ hi := by omega
    refine wss_cons <| ws_if <| wt_c <| wc_le <| wd_meth G <| we_var 0 rfl <| on_deck <| wa_cons <| we_var 4 rfl <| wa_nil <| .intro rfl <| use_length_of k (by omega) <| we_var 1 rfl <| ltS_i ⟨_, rfl, ?_⟩
    refine ite2 (fun h' => ?_) (fun h' => ?_)
    · have h' : len c g ((lo + hi + 1) / 2) ≤ x := of_decide_eq_true h'
      have := (len_le_iff k hx (n := (lo + hi + 1) / 2) (by omega)).mp h'
      refine wss_cons (ws_set 2 (we_var 4 rfl (wss_nil (wss_nil ⟨⟨rfl, (lo + hi + 1) / 2, hi, _, rfl, by omega, this, h2, h3⟩, ?_⟩))))
      show (hi - (lo + hi + 1) / 2).toNat < (hi - lo).toNat
      omega
    · have h' : ¬ len c g ((lo + hi + 1) / 2) ≤ x := fun z => h' (decide_eq_true z)
      have : ¬ (lo + hi + 1) / 2 ≤ turns c g x := fun z => h' ((len_le_iff k hx (by omega)).mpr z)
      refine wss_cons (ws_set 3 (we_sub (we_var 4 rfl (we_int (subS_i (wss_nil (wss_nil ⟨⟨rfl, lo, (lo + hi + 1) / 2 - 1, _, rfl, h0, h1, by omega, by omega⟩, ?_⟩)))))))
      show ((lo + hi + 1) / 2 - 1 - lo).toNat < (hi - lo).toNat
      omega
  · have h : ¬ lo < hi := fun z => h (decide_eq_true z)
    refine wss_one (ws_ret (we_var 2 rfl ?_))
    have : lo = turns c g x := by omega
    rw [this]
    exact hΦ
abbrev s_call : Stmt := inClass (top 9) 8
theorem sc_call : FnScope ["self", "cell"] ["self", "cell"] (defScope s_call) := ⟨rfl, rfl, rfl, by decide +kernel, rfl, by decide +kernel, by decide +kernel⟩
theorem ok_call {f : Addr} {fd : FuncData} (F : Fun K "__call__" "Deck.__call__" s_call f fd) (T : TDeck K mg τ) (G1 : DefD P w K mg base τ "check_number" 2 3 (S_check ε)) (G : MetD P w K mg base τ τ.deck "turns_in" 2 2 S_turns_in) : FnOk P w K mg base (L2.CX P w) 3 f fd ["self", "cell"] (spD K τ 2 (S_call ε)) := by
  refine fnD F sc_call fun cdv A outer s H E Ξ Γ ds o Φ hl hS => ?_
  obtain ⟨c, g, d, rfl, k, ha, hΦ⟩ := hS
  obtain ⟨t, hM⟩ := T.maxn
  refine wss_cons (ws_expr (wd_call G1 (wa_cons (we_var 1 rfl (wa_cons (we_int (wa_cons (we_globI hM (wa_nil ⟨rfl, use_num' ha hΦ fun n e h0 h1 hR => ?_⟩)))))))))
  subst e
  exact wss_one <| ws_ret <| wd_meth G <| we_var 0 rfl <| on_deck <| wa_cons <| we_var 1 rfl <| wa_nil <| .intro rfl <| use_turns_in k h0 (nab18 h0 h1) hR
abbrev s_cells : Stmt := inClass (top 9) 11
theorem sc_cells : FnScope ["self", "turns"] ["self", "turns"] (defScope s_cells) := ⟨rfl, rfl, rfl, by decide +kernel, rfl, by decide +kernel, by decide +kernel⟩
theorem ok_cells {f : Addr} {fd : FuncData} (F : Fun K "cells" "Deck.cells" s_cells f fd) (T : TDeck K mg τ) (G1 : DefD P w K mg base τ "check_number" 2 3 (S_check ε)) (G : MetD P w K mg base τ τ.deck "length_of" 1 2 S_length_of) : FnOk P w K mg base (L2.CX P w) 3 f fd ["self", "turns"] (spD K τ 2 (S_cells ε)) := by
  refine fnD F sc_cells fun cdv A outer s H E Ξ Γ ds o Φ hl hS => ?_
  obtain ⟨c, g, d, rfl, k, ha, hΦ⟩ := hS
  obtain ⟨t, hM⟩ := T.maxn
  refine wss_cons (ws_expr (wd_call G1 (wa_cons (we_var 1 rfl (wa_cons (we_int (wa_cons (we_globI hM (wa_nil ⟨rfl, use_num' ha hΦ fun n e h0 h1 hR => ?_⟩)))))))))
  subst e
  exact wss_one <| ws_ret <| wd_meth G <| we_var 0 rfl <| on_deck <| wa_cons <| we_var 1 rfl <| wa_nil <| .intro rfl <| use_length_of k (nab18 h0 h1) hR
abbrev s_cells_at : Stmt := inClass (top 9) 13
theorem sc_cells_at : FnScope ["self", "reading"] ["self", "reading"] (defScope s_cells_at) := ⟨rfl, rfl, rfl, by decide +kernel, rfl, by decide +kernel, by decide +kernel⟩
theorem ok_cells_at {f : Addr} {fd : FuncData} (F : Fun K "cells_at" "Deck.cells_at" s_cells_at f fd) (T : TDeck K mg τ) (G1 : DefD P w K mg base τ "check_number" 2 3 (S_check ε)) (G : MetD P w K mg base τ τ.deck "length_of" 1 2 S_length_of) : FnOk P w K mg base (L2.CX P w) 3 f fd ["self", "reading"] (spD K τ 2 (S_cells_at ε)) := by
  refine fnD F sc_cells_at fun cdv A outer s H E Ξ Γ ds o Φ hl hS => ?_
  obtain ⟨c, g, d, rfl, k, ha, hΦ⟩ := hS
  obtain ⟨t, hM⟩ := T.maxn
  refine wss_cons (ws_expr (wd_call G1 (wa_cons (we_var 1 rfl (wa_cons (we_int (wa_cons (we_globI hM (wa_nil ⟨rfl, use_num' ha hΦ fun n e h0 h1 hR => ?_⟩)))))))))
  subst e
  exact wss_one <| ws_ret <| we_tup <| wa_cons <| wd_meth G <| we_var 0 rfl <| on_deck <| wa_cons <| we_var 1 rfl <| wa_nil <| .intro rfl <| use_length_of k (nab18 h0 h1) <|
    wa_cons <| we_sub <| wd_meth G <| we_var 0 rfl <| on_deck <| wa_cons <| we_add <| we_var 1 rfl <| we_int <| addS_i <| wa_nil <| .intro rfl <| use_length_of k (nab18' h0 h1) <| we_int <| subS_i <| wa_nil <| .intro (fits rfl) hR
abbrev s_later : Stmt := top 10
theorem sc_later : FnScope ["first", "more", "turns"] ["first", "more", "turns"] (defScope s_later) := ⟨rfl, rfl, rfl, by decide +kernel, rfl, by decide +kernel, by decide +kernel⟩
theorem ok_later {f : Addr} {fd : FuncData} (F : Fun K "later_deck" "later_deck" s_later f fd) (T : TDeck K mg τ) (G1 : DefD P w K mg base τ "check_number" 2 3 (S_check ε)) (G : MakD P w K mg base τ "Deck" τ.deck 3 3 (S_Deck_init τ ε)) : FnOk P w K mg base (L2.CX P w) 5 f fd ["first", "more", "turns"] (spD K τ 3 (S_later ε)) := by
  refine fnD F sc_later fun cdv A outer s H E Ξ Γ ds o Φ hl hS => ?_
  obtain ⟨c, g, d, rfl, k, ha, hΦ⟩ := hS
  obtain ⟨t, hM⟩ := T.maxn
  refine wss_cons (ws_expr (wd_call G1 (wa_cons (we_var 2 rfl (wa_cons (we_int (wa_cons (we_globI hM (wa_nil ⟨rfl, use_num' ha hΦ fun n e h0 h1 hR => ?_⟩)))))))))
  subst e
  have c1 := k.c1
  have c2 := k.c2
  have g1 := k.g1
  have g2 := k.g2
  exact wss_one <| ws_ret <| wd_make G <| wa_cons <| we_add <| we_var 0 rfl <| we_mul <| we_var 2 rfl <| we_var 1 rfl <| mulS_i (mul_r (by omega) (by omega)) <| addS_i <| wa_cons <| we_var 1 rfl <| wa_nil <| .intro rfl fun q hq => use_Deck_init hq hR
abbrev s_rshift : Stmt := inClass (top 9) 9
theorem sc_rshift : FnScope ["self", "turns"] ["self", "turns"] (defScope s_rshift) := ⟨rfl, rfl, rfl, by decide +kernel, rfl, by decide +kernel, by decide +kernel⟩
theorem ok_rshift {f : Addr} {fd : FuncData} (F : Fun K "__rshift__" "Deck.__rshift__" s_rshift f fd) (T : TDeck K mg τ) (G : DefD P w K mg base τ "later_deck" 5 3 (S_later ε)) : FnOk P w K mg base (L2.CX P w) 6 f fd ["self", "turns"] (spD K τ 2 (S_rshift ε)) := by
  refine fnD F sc_rshift fun cdv A outer s H E Ξ Γ ds o Φ hl hS => ?_
  obtain ⟨c, g, d, rfl, k, ha, hΦ⟩ := hS
  exact wss_one <| ws_ret <| wd_call G <| wa_cons <| we_fld <| we_var 0 rfl <| wd_first T.cx <| wa_cons <| we_fld <| we_var 0 rfl <| wd_more T.cx <| wa_cons <| we_var 1 rfl <| wa_nil <| .intro rfl ⟨c, g, d, rfl, k, ha, hΦ⟩
abbrev s_of_turns : Stmt := inClass (top 9) 2
theorem sc_of_turns : FnScope ["cls", "first", "second"] ["cls", "first", "second"] (defScope s_of_turns) := ⟨rfl, rfl, rfl, by decide +kernel, rfl, by decide +kernel, by decide +kernel⟩
theorem ok_of_turns {f : Addr} {fd : FuncData} (F : Fun K "of_turns" "Deck.of_turns" s_of_turns f fd) (T : TDeck K mg τ) (G1 : DefD P w K mg base τ "is_integer" 1 3 S_isint) (xD : ExcF P w K mg base "InvalidDeck" ε.deck "part") (G : MakD P w K mg base τ "Deck" τ.deck 3 3 (S_Deck_init τ ε)) : FnOk P w K mg base (L2.CX P w) 5 f fd ["cls", "first", "second"] (spD K τ 3 (S_of_turns τ ε)) := by
  refine fnD F sc_of_turns fun cdv A outer s H E Ξ Γ ds o Φ hl hS => ?_
  obtain ⟨d1, d2, rfl, a1, a2, hΦ⟩ := hS
  obtain ⟨t, hM⟩ := T.maxc
  refine wss_cons <| ws_if <| wt_not <| wt_val <| wd_call G1 <| wa_cons <| we_var 1 rfl <| wa_cons <| we_int <| wa_cons <| we_globI hM <| wa_nil <| .intro rfl <| use_isint a1 ⟨_, rfl, ?_⟩
  cases e1 : isIn d1 1 M9 with
  | false =>
    rw [e1, if_neg Bool.false_ne_true] at hΦ
    exact iteT (wss_one (ws_raiseF xD (we_str_arg hΦ)))
  | true =>
    rw [e1, if_pos rfl] at hΦ
    obtain ⟨c, rfl, c1, c2, hΦ⟩ := hΦ
    refine iteF (wss_nil ?_)
    refine wss_cons <| ws_if <| wt_not <| wt_val <| wd_call G1 <| wa_cons <| we_var 2 rfl <| wa_cons <| we_var 1 rfl <| wa_cons <| we_add <| we_var 1 rfl <| we_globI hM <| addS_i <| wa_nil <| .intro rfl <| use_isint a2 ⟨_, rfl, ?_⟩
    cases e2 : isIn d2 c (c + M9) with
    | false =>
      rw [e2, if_neg Bool.false_ne_true] at hΦ
      exact iteT (wss_one (ws_raiseF xD (we_str_arg hΦ)))
    | true =>
      rw [e2, if_pos rfl] at hΦ
      obtain ⟨b, rfl, b1, b2, hΦ⟩ := hΦ
      refine iteF (wss_nil ?_)
      have c2' : c ≤ 1000000000 := c2
      have b2' : b ≤ c + 1000000000 := b2
      exact wss_one <| ws_ret <| wd_makeV 0 G rfl <| wa_cons <| we_var 1 rfl <| wa_cons <| we_sub <| we_var 2 rfl <| we_var 1 rfl <| subS_i <| wa_nil <| .intro rfl fun q hq => use_Deck_init hq (deckMk_ok ⟨c1, c2', by omega, by omega⟩ hΦ)
abbrev s_deck_eq : Stmt := inClass (top 9) 5
theorem sc_deck_eq : FnScope ["self", "other"] ["self", "other"] (defScope s_deck_eq) := ⟨rfl, rfl, rfl, by decide +kernel, rfl, by decide +kernel, by decide +kernel⟩
theorem ok_deck_eq {f : Addr} {fd : FuncData} (F : Fun K "__eq__" "Deck.__eq__" s_deck_eq f fd) (B : Blt mg) (T : TDeck K mg τ) : FnOk P w K mg base (L2.CX P w) 1 f fd ["self", "other"] (spD K τ 2 S_deck_eq) := by
  refine fnD F sc_deck_eq fun cdv A outer s H E Ξ Γ ds o Φ hl hS => ?_
  obtain ⟨c, g, d, rfl, hd, hΦ⟩ := hS
  refine wss_one <| ws_ret <| we_and <| we_isiC B.m_isinstance <| wa_cons <| we_var 1 rfl <| wa_cons <| we_globR T.g <| wa_nil ?_
  cases d with
  | deck c' g' =>
    refine isiC_deck T.isi ⟨_, rfl, iteT ?_⟩
    refine we_and <| we_c <| wc_eq <| we_fld <| we_var 0 rfl <| wd_first T.cx <| we_fld <| we_var 1 rfl <| wd_first T.cx <| eqS_i ⟨_, rfl, ?_⟩
    by_cases h1 : c = c'
    · rw [decide_eq_true h1]
      refine iteT ?_
      refine we_one <| we_c <| wc_eq <| we_fld <| we_var 0 rfl <| wd_more T.cx <| we_fld <| we_var 1 rfl <| wd_more T.cx <| eqS_i ?_
      have e : eqDeck c g (.deck c' g') = decide (g = g') := by simp [eqDeck, h1]
      rw [e] at hΦ
      exact hΦ
    · rw [decide_eq_false h1]
      refine iteF ?_
      have e : eqDeck c g (.deck c' g') = false := by simp [eqDeck, h1]
      rw [e] at hΦ
      exact hΦ
  | non => exact isiC_no rfl (T.kit "NoneType" (by decide)) ⟨_, rfl, iteF hΦ⟩
  | bl b => exact isiC_no rfl (T.kit "bool" (by decide)) ⟨_, rfl, iteF hΦ⟩
  | int i => exact isiC_no rfl (T.kit "int" (by decide)) ⟨_, rfl, iteF hΦ⟩
  | str i => exact isiC_no rfl (T.kit "str" (by decide)) ⟨_, rfl, iteF hΦ⟩
  | tup i => exact isiC_no rfl (T.kit "tuple" (by decide)) ⟨_, rfl, iteF hΦ⟩
  | lst i => exact isiC_no rfl (T.kit "list" (by decide)) ⟨_, rfl, iteF hΦ⟩
  | _ => cases hd
abbrev s_rrange : Stmt := top 11
theorem sc_rrange : FnScope ["deck", "other", "reading", "low", "high"] ["deck", "other", "reading"] (defScope s_rrange) := ⟨rfl, rfl, rfl, by decide +kernel, rfl, by decide +kernel, by decide +kernel⟩
theorem ok_rrange {f : Addr} {fd : FuncData} (F : Fun K "reading_range" "reading_range" s_rrange f fd) (T : TDeck K mg τ) (G1 : MetD P w K mg base τ τ.deck "cells_at" 3 2 (S_cells_at ε)) (G : MetD P w K mg base τ τ.deck "turns_in" 2 2 S_turns_in) : FnOk P w K mg base (L2.CX P w) 4 f fd ["deck", "other", "reading"] (spD K τ 3 (S_rrange ε)) := by
  refine fnD F sc_rrange fun cdv A outer s H E Ξ Γ ds o Φ hl hS => ?_
  obtain ⟨c, g, c', g', d, rfl, k, k', ha, hΦ⟩ := hS
  refine wss_cons <| ws_asg <| wd_meth G1 <| we_var 0 rfl <| on_deck <| wa_cons <| we_var 2 rfl <| wa_nil <| .intro rfl ⟨c, g, d, rfl, k, ha, ?_⟩
  cases e : isIn d 0 M18 with
  | false =>
    rw [e, if_neg Bool.false_ne_true] at hΦ
    rw [if_neg Bool.false_ne_true]
    exact hΦ
  | true =>
    rw [e, if_pos rfl] at hΦ
    rw [if_pos rfl]
    obtain ⟨n, rfl, h0, h1, hΦ⟩ := hΦ
    refine ⟨n, rfl, h0, h1, wg_tup (wgs_cons (wg_name 3 (wgs_cons (wg_name 4 (wgs_nil ?_)))))⟩
    have b1 := len_nonneg k h0
    have b2 := len_lt k h0
    have b3 := len_nab k h0 h1
    have b4 := len_nab' k h0 h1
    exact wss_one <| ws_ret <| we_tup <| wa_cons <| wd_meth G <| we_var 1 rfl <| on_deck <| wa_cons <| we_var 3 rfl <| wa_nil <| .intro rfl <| use_turns_in k' b1 b3 <|
      wa_cons <| wd_meth G <| we_var 1 rfl <| on_deck <| wa_cons <| we_var 4 rfl <| wa_nil <| .intro rfl <| use_turns_in k' (by omega) b4 <| wa_nil <| .intro (fits rfl) hΦ
abbrev s_unlike : Stmt := top 12
theorem sc_unlike : FnScope ["deck", "other"] ["deck", "other"] (defScope s_unlike) := ⟨rfl, rfl, rfl, by decide +kernel, rfl, by decide +kernel, by decide +kernel⟩
theorem ok_unlike {f : Addr} {fd : FuncData} (F : Fun K "first_unlike_cell" "first_unlike_cell" s_unlike f fd) (B : Blt mg) (T : TDeck K mg τ) : FnOk P w K mg base (L2.CX P w) 1 f fd ["deck", "other"] (spD K τ 2 S_unlike) := by
  refine fnD F sc_unlike fun cdv A outer s H E Ξ Γ ds o Φ hl hS => ?_
  obtain ⟨c, g, c', g', rfl, k, hΦ⟩ := hS
  have c1 := k.c1
  have c2 := k.c2
  refine wss_cons <| ws_if <| wt_c <| wc_ne <| we_fld <| we_var 0 rfl <| wd_first T.cx <| we_fld <| we_var 1 rfl <| wd_first T.cx <| neS_i ⟨_, rfl, ?_⟩
  by_cases h : c = c'
  · rw [decide_eq_true h]
    refine iteF (wss_nil ?_)
    refine wss_cons <| ws_if <| wt_c <| wc_ne <| we_fld <| we_var 0 rfl <| wd_more T.cx <| we_fld <| we_var 1 rfl <| wd_more T.cx <| neS_i ⟨_, rfl, ?_⟩
    by_cases h' : g = g'
    · rw [decide_eq_true h']
      refine iteF (wss_nil ?_)
      refine wss_one (ws_ret (we_non ?_))
      unfold unlikeD at hΦ
      rw [if_neg (by omega), if_neg (by omega)] at hΦ
      exact hΦ
    · rw [decide_eq_false h']
      refine iteT ?_
      refine wss_one <| ws_ret <| we_add <| we_mul <| we_int <| we_fld <| we_var 0 rfl <| wd_first T.cx <| mulS_i (mul_l (by omega) (by omega)) <| we_min2 B.m_min <| wa_cons <| we_fld <| we_var 0 rfl <| wd_more T.cx <| wa_cons <| we_fld <| we_var 1 rfl <| wd_more T.cx <| wa_nil <| max2S_i <| addS_i ?_
      unfold unlikeD at hΦ
      rw [if_neg (by omega), if_pos h'] at hΦ
      exact hΦ
  · rw [decide_eq_false h]
    refine iteT ?_
    refine wss_one <| ws_ret <| we_min2 B.m_min <| wa_cons <| we_fld <| we_var 0 rfl <| wd_first T.cx <| wa_cons <| we_fld <| we_var 1 rfl <| wd_first T.cx <| wa_nil <| max2S_i ?_
    unfold unlikeD at hΦ
    rw [if_pos h] at hΦ
    exact hΦ
end
end TC

set_option Elab.async false
set_option linter.all false
set_option maxRecDepth 100000
set_option maxHeartbeats 4000000
namespace TC
open PySem PySem.Spec PyProof.Rows L2 DL
section
variable {P : Program} {w : World} {K : PySem.W.Frag} {mg : Str → Option Value} {base : Heap} {τ : Tx} {ε : Excs}
abbrev s_taken : Stmt := top 14
theorem sc_taken : FnScope ["_law_row", "_law_many", "_law_found", "_law_cell"] ["_law_row", "_law_many"] (defScope s_taken) := ⟨rfl, rfl, rfl, by decide +kernel, rfl, by decide +kernel, by decide +kernel⟩
theorem ok_taken {f : Addr} {fd : FuncData} (F : Fun K "_law_taken" "_law_taken" s_taken f fd) (B : Blt mg) : FnOk P w K mg base (L2.CX P w) 1 f fd ["_law_row", "_law_many"] (spD K τ 2 S_taken) := by
  refine fnD F sc_taken fun cdv A outer s H E Ξ Γ ds o Φ hl hS => ?_
  obtain ⟨r, ns, many, rfl, ⟨i, sd, t, hi, hr⟩, m0, m1, hΦ⟩ := hS
  have fin : ∀ (x : Int) o', Rowed r ns o' → But r o o' → Φ (.int (x % many)) o' := fun x o' h1 h2 => hΦ _ o' (Int.emod_nonneg _ (by omega)) (Int.emod_lt_of_pos _ m0) h1 h2
  refine wss_cons <| ws_if <| wt_c <| wc_gt <| we_ix <| we_var 0 rfl <| we_int ⟨_, _, hr, rfl, we_int <| ltS_i ⟨_, rfl, ?_⟩⟩
  refine ite2 (fun h => ?_) (fun h => ?_)
  · refine wss_cons <| ws_set 2 <| we_mod <| we_int1 B.m_int <| wa_cons <| we_ix <| we_var 0 rfl <| we_int ⟨_, _, hr, rfl, wa_nil <| intS_i <| we_var 1 rfl <| modS_i m0 ?_⟩
    refine wss_cons <| ws_sub <| we_fdiv <| we_ix <| we_var 0 rfl <| we_int ⟨_, _, hr, rfl, we_var 1 rfl <| fdivS_i (div_s m0 m1) <| we_var 0 rfl <| we_int ⟨_, _, _, _, rfl, rfl, hr, rfl, ?_⟩⟩
    exact wss_one <| ws_ret <| we_var 2 rfl <| fin _ _ (Rowed.upd hi) But.upd
  · refine wss_nil ?_
    refine wss_cons <| ws_sub <| we_add <| we_ix <| we_var 0 rfl <| we_int ⟨_, _, hr, rfl, we_int <| addS_i <| we_var 0 rfl <| we_int ⟨_, _, _, _, rfl, rfl, hr, rfl, ?_⟩⟩
    refine wss_cons <| ws_if <| wt_c <| wc_gt <| we_ix <| we_var 0 rfl <| we_int ⟨_, _, updO_same, rfl, we_len B.m_len <| wa_cons <| we_ix <| we_var 0 rfl <| we_int ⟨_, _, updO_same, rfl, wa_nil <| lenS_scr <| ltS_i ⟨_, rfl, ?_⟩⟩⟩
    refine ite2 (fun h1 => ?_) (fun h1 => ?_)
    · refine wss_cons <| ws_sub <| we_mod <| we_int1 B.m_int <| wa_cons <| we_add <| we_mul <| we_ix <| we_var 0 rfl <| we_int ⟨_, _, updO_same, rfl, we_int <| mulS_i (mul_r (by omega) (by omega)) <| we_int <| addS_i <| wa_nil <| intS_i <| we_int <| modS_i (by omega) <| we_var 0 rfl <| we_int ⟨_, _, _, _, rfl, rfl, updO_same, rfl, ?_⟩⟩
      rw [updO_updO]
      exact wss_one <| ws_ret <| we_mod <| we_int1 B.m_int <| wa_cons <| we_fdiv <| we_ix <| we_var 0 rfl <| we_int ⟨_, _, updO_same, rfl, we_int <| fdivS_i (div_s (by omega) (by omega)) <| wa_nil <| intS_i <| we_var 1 rfl <| modS_i m0 <| fin _ _ (Rowed.upd (by omega)) But.upd⟩
    · refine wss_nil ?_
      have hlt : ¬ (ns.length : Int) < i + 1 := fun z => h1 (decide_eq_true z)
      obtain ⟨cell, hc⟩ : ∃ cell, ns[i.toNat]? = some cell := ⟨_, List.getElem?_eq_getElem (show i.toNat < ns.length by omega)⟩
      have hat : atI ns (i + 1 - 1) = some cell := by
        rw [show i + 1 - 1 = ((i.toNat : Nat) : Int) by omega]
        exact atI_nat hc
      refine wss_cons <| ws_set 3 <| we_ix <| we_ix <| we_var 0 rfl <| we_int ⟨_, _, updO_same, rfl, we_sub <| we_ix <| we_var 0 rfl <| we_int ⟨_, _, updO_same, rfl, we_int <| subS_i ⟨cell, hat, ?_⟩⟩⟩
      refine wss_cons <| ws_sub <| we_mod <| we_int1 B.m_int <| wa_cons <| we_add <| we_add <| we_mul <| we_ix <| we_var 0 rfl <| we_int ⟨_, _, updO_same, rfl, we_int <| mulS_i (mul_r (by omega) (by omega)) <| we_var 3 rfl <| addS_i <| we_int <| addS_i <| wa_nil <| intS_i <| we_int <| modS_i (by omega) <| we_var 0 rfl <| we_int ⟨_, _, _, _, rfl, rfl, updO_same, rfl, ?_⟩⟩
      rw [updO_updO]
      refine wss_cons <| ws_if <| wt_c <| wc_ge <| we_var 3 rfl <| we_pow <| we_int <| we_int <| powS_18 <| ltS_i ⟨_, rfl, ?_⟩
      refine ite2 (fun h2 => ?_) (fun h2 => ?_)
      · refine wss_cons <| ws_sub <| we_fdiv <| we_var 3 rfl <| we_var 1 rfl <| fdivS_i (div_s m0 m1) <| we_var 0 rfl <| we_int ⟨_, _, _, _, rfl, rfl, updO_same, rfl, ?_⟩
        rw [updO_updO]
        exact wss_nil <| wss_one <| ws_ret <| we_mod <| we_int1 B.m_int <| wa_cons <| we_var 3 rfl <| wa_nil <| intS_i <| we_var 1 rfl <| modS_i m0 <| fin _ _ (Rowed.upd (by omega)) But.upd
      · exact wss_nil <| wss_one <| ws_ret <| we_mod <| we_int1 B.m_int <| wa_cons <| we_var 3 rfl <| wa_nil <| intS_i <| we_var 1 rfl <| modS_i m0 <| fin _ _ (Rowed.upd (by omega)) But.upd
abbrev s_great : Stmt := top 15
theorem sc_great : FnScope ["_law_row", "_law_many"] ["_law_row", "_law_many"] (defScope s_great) := ⟨rfl, rfl, rfl, by decide +kernel, rfl, by decide +kernel, by decide +kernel⟩
theorem ok_great {f : Addr} {fd : FuncData} (F : Fun K "_law_great" "_law_great" s_great f fd) (B : Blt mg) (G : DefD P w K mg base τ "_law_taken" 1 2 S_taken) : FnOk P w K mg base (L2.CX P w) 2 f fd ["_law_row", "_law_many"] (spD K τ 2 S_great) := by
  refine fnD F sc_great fun cdv A outer s H E Ξ Γ ds o Φ hl hS => ?_
  obtain ⟨r, ns, many, rfl, hr, m0, hΦ⟩ := hS
  refine wss_one <| ws_ret <| we_mod <| we_int1 B.m_int <| wa_cons <| we_add <| we_mul <| wd_call G <| wa_cons <| we_var 0 rfl <| wa_cons <| we_pow <| we_int <| we_int <| powS_9 <| wa_nil <| .intro rfl <| use_taken hr fun n1 o1 a1 b1 hr1 hb1 => ?_
  refine we_pow <| we_int <| we_int <| powS_9 <| mulS_i (mul_r (by omega) (by omega)) <| wd_call G <| wa_cons <| we_var 0 rfl <| wa_cons <| we_pow <| we_int <| we_int <| powS_9 <| wa_nil <| .intro rfl <| use_taken hr1 fun n2 o2 a2 b2 hr2 hb2 => ?_
  exact addS_i <| wa_nil <| intS_i <| we_var 1 rfl <| modS_i m0 <| hΦ _ o2 (Int.emod_nonneg _ (by omega)) (Int.emod_lt_of_pos _ m0) hr2 (hb1.trans hb2)
abbrev s_ldeck : Stmt := top 16
theorem sc_ldeck : FnScope ["_law_row", "_law_most"] ["_law_row", "_law_most"] (defScope s_ldeck) := ⟨rfl, rfl, rfl, by decide +kernel, rfl, by decide +kernel, by decide +kernel⟩
theorem ok_ldeck {f : Addr} {fd : FuncData} (F : Fun K "_law_deck" "_law_deck" s_ldeck f fd) (G : DefD P w K mg base τ "_law_taken" 1 2 S_taken) (GD : MakD P w K mg base τ "Deck" τ.deck 3 3 (S_Deck_init τ ε)) : FnOk P w K mg base (L2.CX P w) 5 f fd ["_law_row", "_law_most"] (spD K τ 2 S_ldeck) := by
  refine fnD F sc_ldeck fun cdv A outer s H E Ξ Γ ds o Φ hl hS => ?_
  obtain ⟨r, ns, most, rfl, hr, m0, m1, hΦ⟩ := hS
  refine wss_one <| ws_ret <| wd_make GD <| wa_cons <| we_add <| we_int <| wd_call G <| wa_cons <| we_var 0 rfl <| wa_cons <| we_var 1 rfl <| wa_nil <| .intro rfl <| use_taken hr fun n1 o1 a1 b1 hr1 hb1 => ?_
  refine addS_i <| wa_cons <| wd_call G <| wa_cons <| we_var 0 rfl <| wa_cons <| we_ix <| we_lst <| wa_cons <| we_int <| wa_cons <| we_int <| wa_cons <| we_var 1 rfl <| wa_nil <| .intro (fits rfl) <| wd_call G <| wa_cons <| we_var 0 rfl <| wa_cons <| we_int <| wa_nil <| .intro rfl <| use_taken hr1 fun n2 o2 a2 b2 hr2 hb2 => ?_
  have go : ∀ z, 0 < z → z ≤ most → ∀ {Ψ : D → O → Prop} {Ξ'}, (∀ n3 o3, 0 ≤ n3 → n3 < most → Rowed r ns o3 → But r o2 o3 → Ψ (.int n3) o3) → S_taken [.ref r, .int z] o2 Ψ Ξ' := fun z h0 h1 Ψ Ξ' h => use_taken hr2 (fun n o' c1 c2 c3 c4 => h n o' c1 (by omega) c3 c4)
  rcases (show n2 = 0 ∨ n2 = 1 ∨ n2 = 2 by omega) with rfl | rfl | rfl
  · exact ⟨_, rfl, wa_nil <| .intro rfl <| go _ (by omega) (by omega) fun n3 o3 a3 b3 hr3 hb3 => wa_nil <| .intro rfl fun q hq => use_Deck_init hq <| deckMk_ok ⟨by omega, by omega, by omega, by omega⟩ <| hΦ _ _ o3 (by omega) (by omega) a3 b3 hr3 ((hb1.trans hb2).trans hb3)⟩
  · exact ⟨_, rfl, wa_nil <| .intro rfl <| go _ (by omega) (by omega) fun n3 o3 a3 b3 hr3 hb3 => wa_nil <| .intro rfl fun q hq => use_Deck_init hq <| deckMk_ok ⟨by omega, by omega, by omega, by omega⟩ <| hΦ _ _ o3 (by omega) (by omega) a3 b3 hr3 ((hb1.trans hb2).trans hb3)⟩
  · exact ⟨_, rfl, wa_nil <| .intro rfl <| go _ (by omega) (by omega) fun n3 o3 a3 b3 hr3 hb3 => wa_nil <| .intro rfl fun q hq => use_Deck_init hq <| deckMk_ok ⟨by omega, by omega, by omega, by omega⟩ <| hΦ _ _ o3 (by omega) (by omega) a3 b3 hr3 ((hb1.trans hb2).trans hb3)⟩
end
end TC

set_option Elab.async false
set_option linter.all false
set_option maxRecDepth 100000
set_option maxHeartbeats 2000000
/-! Sp2: decks in a law: short ways. -/
namespace TC
open PySem PySem.Spec PyProof.Rows L2 DL
section
variable {o : O} {Φ : D → O → Prop} {Ξ : DX → O → Prop} {ε : Excs} {τ : Tx}
theorem le18 {n : Int} (h : n ≤ 1000000000000000000) : n ≤ M18 := h
theorem use_rshift {c g n : Int} (k : OkDeck c g) (h0 : 0 ≤ n) (hn : n ≤ M18) (k2 : OkDeck (c + n * g) g) (h : Φ (.deck (c + n * g) g) o) : S_rshift ε [.deck c g, .int n] o Φ Ξ :=
  ⟨c, g, _, rfl, k, rfl, by rw [if_pos (isIn_i h0 hn)]; exact ⟨n, rfl, h0, hn, deckMk_ok k2 h⟩⟩
theorem use_rrange {c g c' g' n : Int} (k : OkDeck c g) (k' : OkDeck c' g') (h0 : 0 ≤ n) (hn : n ≤ M18) (h : Φ (.tup [.int (turns c' g' (len c g n)), .int (turns c' g' (len c g (n + 1) - 1))]) o) : S_rrange ε [.deck c g, .deck c' g', .int n] o Φ Ξ :=
  ⟨c, g, c', g', _, rfl, k, k', rfl, by rw [if_pos (isIn_i h0 hn)]; exact ⟨n, rfl, h0, hn, h⟩⟩
theorem use_unlike {c g c' g' : Int} (k : OkDeck c g) (h : Φ (unlikeD c g c' g') o) : S_unlike [.deck c g, .deck c' g'] o Φ Ξ := ⟨c, g, c', g', rfl, k, h⟩
theorem use_of_turns {c b : Int} (c1 : 1 ≤ c) (c2 : c ≤ 1000000000) (b1 : c ≤ b) (b2 : b ≤ c + 1000000000) (h : Φ (.deck c (b - c)) o) : S_of_turns τ ε [.ref τ.deck, .int c, .int b] o Φ Ξ :=
  ⟨_, _, rfl, rfl, rfl, by rw [if_pos (isIn_i c1 c2)]; exact ⟨c, rfl, c1, c2, by rw [if_pos (isIn_i b1 b2)]; exact ⟨b, rfl, b1, b2, h⟩⟩⟩
theorem use_deck_eq {c g : Int} {d : D} (hd : isDeckOr d = true) (h : Φ (.bl (eqDeck c g d)) o) : S_deck_eq [.deck c g, d] o Φ Ξ := ⟨c, g, d, rfl, hd, h⟩
theorem use_deck_same {c g c' g' : Int} (h1 : c = c') (h2 : g = g') (h : Φ (.bl true) o) : S_deck_eq [.deck c g, .deck c' g'] o Φ Ξ := ⟨c, g, _, rfl, rfl, by subst h1 h2; simpa [eqDeck] using h⟩
theorem use_core {c g : Int} (h : Φ (.int c) o) : S_core [.deck c g] o Φ Ξ := ⟨c, g, rfl, h⟩
theorem use_growth {c g : Int} (h : Φ (.int g) o) : S_growth [.deck c g] o Φ Ξ := ⟨c, g, rfl, h⟩
theorem eqS_same {i j : Int} (h : i = j) (k : Φ (.bl true) o) : eqS (.int i) (.int j) o Φ := eqS_i (by rw [decide_eq_true h]; exact k)
theorem neS_same {i j : Int} (h : i = j) (k : Φ (.bl false) o) : neS (.int i) (.int j) o Φ := neS_i (by rw [decide_eq_true h]; exact k)
theorem ltS_f {f : Int → Int → Bool} {i j : Int} (h : f i j = false) (k : Φ (.bl false) o) : ltS f (.int i) (.int j) o Φ := ltS_i (by rw [h]; exact k)
theorem ltS_t {f : Int → Int → Bool} {i j : Int} (h : f i j = true) (k : Φ (.bl true) o) : ltS f (.int i) (.int j) o Φ := ltS_i (by rw [h]; exact k)
theorem eqD_self2 {a b : Int} : eqD (.tup [.int a, .int b]) (.tup [.int a, .int b]) = true := by
  unfold eqD; simp [py, pys, PyData.eqv, PyData.eqvAll]
theorem eqS_same2 {a b a' b' : Int} (h : a = a') (h2 : b = b') (k : Φ (.bl true) o) : eqS (.tup [.int a, .int b]) (.tup [.int a', .int b']) o Φ := ⟨rfl, rfl, by subst h h2; rw [eqD_self2]; exact k⟩
theorem neS_same2 {a b a' b' : Int} (h : a = a') (h2 : b = b') (k : Φ (.bl false) o) : neS (.tup [.int a, .int b]) (.tup [.int a', .int b']) o Φ := ⟨rfl, rfl, by subst h h2; rw [eqD_self2]; exact k⟩
theorem lt_f {i j : Int} (h : j ≤ i) : decide (i < j) = false := decide_eq_false (by omega)
/-! mathematics of later decks -/
theorem at_add {c g n m : Int} : c + n * g + m * g = c + (n + m) * g := by rw [Int.add_mul]; omega
theorem turns_shift {c g n x : Int} (k : OkDeck c g) (k2 : OkDeck (c + n * g) g) (h0 : 0 ≤ n) (hx : 0 ≤ x) : turns c g (len c g n + x) = n + turns (c + n * g) g x := by
  have h := turns_is k2 hx
  refine turns_eq k ⟨by have := h.1; omega, ?_, ?_⟩
  · rw [len_add]; have := h.2.1; omega
  · rw [show n + turns (c + n * g) g x + 1 = n + (turns (c + n * g) g x + 1) by omega, len_add]; have := h.2.2; omega
theorem len_le_deck {c g c' g' n : Int} (k : OkDeck c g) (hc : c ≤ c') (hg : g ≤ g') (h0 : 0 ≤ n) : len c g n ≤ len c' g' n := by
  unfold len
  have h1 := Int.mul_le_mul_of_nonneg_left hc h0
  have h2 := Int.mul_le_mul_of_nonneg_left hg (tri_nonneg h0)
  omega
/-- a deck with more cells to a turn shows less -/
theorem turns_deck_le {c g c' g' x : Int} (k : OkDeck c g) (k' : OkDeck c' g') (hc : c ≤ c') (hg : g ≤ g') (hx : 0 ≤ x) : turns c' g' x ≤ turns c g x := by
  have h := turns_is k' hx
  have h2 := len_le_deck k hc hg h.1
  exact (len_le_iff k hx h.1).mp (by have := h.2.1; omega)
theorem turns_last {c g n : Int} (k : OkDeck c g) (h0 : 0 ≤ n) : turns c g (len c g (n + 1) - 1) = n := turns_eq k ⟨h0, by have := len_lt k h0; omega, by omega⟩
end
section
variable {o : O} {Φ : D → O → Prop} {Ξ : DX → O → Prop} {ε : Excs} {τ : Tx}
def S_goes : DSp := fun ds o Φ _ => ∃ r ns c g n m, ds = [.ref r, .deck c g, .int n, .int m] ∧ Rowed r ns o ∧ (1 ≤ c ∧ c ≤ 100000 ∧ 0 ≤ g ∧ g ≤ 100000) ∧ 0 ≤ n ∧ n ≤ 1000 ∧ 0 ≤ m ∧ m ≤ 1000 ∧ ∀ o', Rowed r ns o' → But r o o' → Φ (.bl true) o'
theorem use_great {r : Addr} {ns : List Int} {many : Int} {o : O} (hr : Rowed r ns o) (h : ∀ n o', 0 ≤ n → n < many → Rowed r ns o' → But r o o' → Φ (.int n) o') (h0 : 0 < many := by omega) : S_great [.ref r, .int many] o Φ Ξ := ⟨r, ns, many, rfl, hr, h0, h⟩
theorem pick3 {a b c n : Int} {Ψ : D → O → Prop} (h0 : 0 ≤ n) (h1 : n < 3) (ha : Ψ (.int a) o) (hb : Ψ (.int b) o) (hc : Ψ (.int c) o) : ixS (.lst [.int a, .int b, .int c]) (.int n) o Ψ := by
  rcases (show n = 0 ∨ n = 1 ∨ n = 2 by omega) with rfl | rfl | rfl
  · exact ⟨_, rfl, ha⟩
  · exact ⟨_, rfl, hb⟩
  · exact ⟨_, rfl, hc⟩
theorem pick2 {a b n : Int} {Ψ : D → O → Prop} (h0 : 0 ≤ n) (h1 : n < 2) (ha : Ψ (.int a) o) (hb : Ψ (.int b) o) : ixS (.lst [.int a, .int b]) (.int n) o Ψ := by
  rcases (show n = 0 ∨ n = 1 by omega) with rfl | rfl
  · exact ⟨_, rfl, ha⟩
  · exact ⟨_, rfl, hb⟩
theorem small_later {c g n : Int} (h1 : 1 ≤ c) (h2 : c ≤ 100000) (h3 : 0 ≤ g) (h4 : g ≤ 100000) (h5 : 0 ≤ n) (h6 : n ≤ 2000) : OkDeck (c + n * g) g ∧ 0 ≤ n * g ∧ n * g ≤ 200000000 := by
  have := mul_bound h5 h6 h3 h4
  exact ⟨⟨by omega, by omega, h3, by omega⟩, this.1, by omega⟩
end
end TC
namespace TC
open PySem PySem.Spec PyProof.Rows L2 DL
theorem len_small {c g n : Int} (k : OkDeck c g) (h0 : 0 ≤ n) (h1 : n ≤ 1000) (hc : c ≤ 100000) (hg : g ≤ 100000) : len c g n ≤ 100000000000 := by
  unfold len
  have a1 := mul_bound h0 h1 (show 0 ≤ c by have := k.c1; omega) hc
  have h2 := tri_two n
  have a2 : tri n ≤ 500000 := by
    rcases (show n = 0 ∨ 1 ≤ n by omega) with e | e
    · subst e; rw [tri_zero]; decide
    · have := (mul_bound h0 h1 (show 0 ≤ n - 1 by omega) (show n - 1 ≤ 1000 by omega)).2
      omega
  have a3 := mul_bound (tri_nonneg h0) a2 k.g1 hg
  omega
end TC
namespace TC
open PySem PySem.Spec PyProof.Rows L2 DL
theorem pickD2 {o : O} {a b n : Int} {Ψ : D → O → Prop} (h0 : 0 ≤ n) (h1 : n < 2) (h : ∀ z, (z = a ∨ z = b) → Ψ (.int z) o) : ixS (.lst [.int a, .int b]) (.int n) o Ψ := pick2 h0 h1 (h a (.inl rfl)) (h b (.inr rfl))
theorem pickD3 {o : O} {a b c n : Int} {Ψ : D → O → Prop} (h0 : 0 ≤ n) (h1 : n < 3) (h : ∀ z, (z = a ∨ z = b ∨ z = c) → Ψ (.int z) o) : ixS (.lst [.int a, .int b, .int c]) (.int n) o Ψ := pick3 h0 h1 (h a (.inl rfl)) (h b (.inr (.inl rfl))) (h c (.inr (.inr rfl)))
theorem ty_int {K : PySem.W.Frag} {C : Addr} {op : Operator} {n : Int} (h : BinT K C op "int") : tyN (.int n) ≠ "" ∧ BinT K C op (tyN (.int n)) := ⟨show ("int" : String) ≠ "" by decide, h⟩
end TC
namespace TC
open PySem PySem.Spec PyProof.Rows L2 DL
section
variable {o : O} {Φ : D → O → Prop} {Ξ : DX → O → Prop} {ε : Excs} {τ : Tx}
theorem neS_b {a b : Bool} (h : a = b) (k : Φ (.bl false) o) : neS (.bl a) (.bl b) o Φ := ⟨rfl, rfl, by subst h; cases a <;> exact k⟩
theorem eqS_b {a b : Bool} (h : a = b) (k : Φ (.bl true) o) : eqS (.bl a) (.bl b) o Φ := ⟨rfl, rfl, by subst h; cases a <;> exact k⟩
theorem nf_deck {K : PySem.W.Frag} {c g : Int} (h : PySem.W.notFirst K τ.deck (.ref τ.deck) = true) : tyD τ (.deck c g) ≠ .none ∧ PySem.W.notFirst K τ.deck (tyD τ (.deck c g)) = true := ⟨(fun z => by cases z), h⟩
theorem unlike_same {c g n : Int} (h : n * g = 0) : unlikeD c g (c + n * g) g = .non := by
  unfold unlikeD
  rw [if_neg (by omega), if_neg (by omega)]
theorem unlike_less {c g n : Int} (h : n * g ≠ 0) (h0 : 0 ≤ n * g) : unlikeD c g (c + n * g) g = .int c := by
  unfold unlikeD minI
  rw [if_pos (by omega), if_neg (by omega)]
theorem turns_first {c g : Int} (k : OkDeck c g) : turns c g c = 1 := turns_eq k ⟨by decide, by unfold len; rw [tri_one]; omega, by rw [show (1 : Int) + 1 = 2 from rfl]; unfold len; rw [show tri 2 = 1 by decide]; have := k.c1; have := k.g1; omega⟩
theorem turns_zero {c g x : Int} (k : OkDeck c g) (h0 : 0 ≤ x) (h : x < c) : turns c g x = 0 := turns_eq k ⟨by decide, by rw [len_zero]; exact h0, by rw [show (0 : Int) + 1 = 1 from rfl]; unfold len; rw [tri_one]; omega⟩
end
end TC

set_option Elab.async false
set_option linter.all false
set_option maxRecDepth 100000
set_option maxHeartbeats 4000000
namespace TC
open PySem PySem.Spec PyProof.Rows L2 DL
section
variable {P : Program} {w : World} {K : PySem.W.Frag} {mg : Str → Option Value} {base : Heap} {τ : Tx} {ε : Excs}
abbrev s_goes : Stmt := top 17
theorem sc_goes : FnScope ["_law_row", "_law_deck_here", "_law_turns", "_law_more", "_law_later", "_law_begin", "_law_cell", "_law_first", "_law_last"] ["_law_row", "_law_deck_here", "_law_turns", "_law_more"] (defScope s_goes) := ⟨rfl, rfl, rfl, by decide +kernel, rfl, by decide +kernel, by decide +kernel⟩
theorem ok_goes {f : Addr} {fd : FuncData} (F : Fun K "_law_goes_on" "_law_goes_on" s_goes f fd) (BT : BinT K τ.deck .RShift "int") (G : DefD P w K mg base τ "_law_taken" 1 2 S_taken) (Gg : DefD P w K mg base τ "_law_great" 2 2 S_great)
    (GR : BinD P w K mg base τ τ.deck .RShift 6 (S_rshift ε)) (GC : CalD P w K mg base τ τ.deck 3 2 (S_call ε)) (GI : ItmD P w K mg base τ τ.deck 2 (S_getitem ε)) (Gc : MetD P w K mg base τ τ.deck "cells" 3 2 (S_cells ε)) (Ga : MetD P w K mg base τ τ.deck "cells_at" 3 2 (S_cells_at ε)) :
    FnOk P w K mg base (L2.CX P w) 7 f fd ["_law_row", "_law_deck_here", "_law_turns", "_law_more"] (spD K τ 4 S_goes) := by
  refine fnD F sc_goes fun cdv A outer s H E Ξ Γ ds o Φ hl hS => ?_
  obtain ⟨r, ns, c, g, n, m, rfl, hr, ⟨c1, c2, g1, g2⟩, n1, n2, m1, m2, hΦ⟩ := hS
  have k : OkDeck c g := ⟨c1, by omega, g1, by omega⟩
  obtain ⟨k2, ng0, ng1⟩ := small_later c1 c2 g1 g2 n1 (show n ≤ 2000 by omega)
  have eA := len_add c g n m
  refine wss_cons <| ws_par 4 5 <| wa_cons <| wd_binT GR <| we_var 1 rfl <| we_var 2 rfl ⟨is_deck, ty_int BT, use_rshift k n1 (le18 (by omega)) k2 <| wa_cons <| wd_meth Gc <| we_var 1 rfl <| on_deck <| wa_cons <| we_var 2 rfl <| wa_nil <| .intro rfl <| use_num k n1 (le18 (by omega)) <| wa_nil ⟨_, _, rfl, ?_⟩⟩
  refine wss_cons <| ws_if <| wt_w <| ww_or <| wt_c <| wc_ne <| wd_meth Gc <| we_var 1 rfl <| on_deck <| wa_cons <| we_add <| we_var 2 rfl <| we_var 3 rfl <| addS_i <| wa_nil <| .intro rfl <| use_num k (by omega) (le18 (by omega)) <| we_add <| we_var 5 rfl <| wd_meth Gc <| we_var 4 rfl <| on_deck <| wa_cons <| we_var 3 rfl <| wa_nil <| .intro rfl <| use_num k2 m1 (le18 (by omega)) <| addS_i <| neS_same eA ⟨_, rfl, iteF <|
    ww_or1 <| wt_c <| wc_ne <| wd_ix GI <| we_var 4 rfl <| we_var 3 rfl ⟨is_deck, use_num k2 m1 (le18 (by omega)) <| wd_ix GI <| we_var 1 rfl <| we_add <| we_var 2 rfl <| we_var 3 rfl <| addS_i ⟨is_deck, use_num k (by omega) (le18 (by omega)) <| neS_same at_add ⟨_, rfl, iteF <| wss_nil ?_⟩⟩⟩⟩
  refine wss_cons <| ws_set 6 <| we_ix <| we_lst <| wa_cons <| wd_call G <| wa_cons <| we_var 0 rfl <| wa_cons <| we_int <| wa_nil <| .intro rfl <| use_taken hr fun x1 o1 a1 b1 hr1 hb1 => wa_cons <| wd_call Gg <| wa_cons <| we_var 0 rfl <| wa_cons <| we_pow <| we_int <| we_int <| powS_17 <| wa_nil <| .intro rfl <| use_great hr1 fun x2 o2 a2 b2 hr2 hb2 => wa_nil <| .intro (fits rfl) <| wd_call G <| wa_cons <| we_var 0 rfl <| wa_cons <| we_int <| wa_nil <| .intro rfl <| use_taken hr2 fun x3 o3 a3 b3 hr' hb3 => pickD2 a3 b3 fun x hx => ?_
  have x0 : 0 ≤ x := by omega
  have x1 : x < 100000000000000000 := by omega
  have hb' := (hb1.trans hb2).trans hb3
  have l0 := len_nonneg k n1
  have l1 := len_bound k n1 (by omega)
  refine wss_cons <| ws_if <| wt_c <| wc_ne <| wd_callO GC <| we_var 1 rfl ⟨is_deck, wa_cons <| we_add <| we_var 5 rfl <| we_var 6 rfl <| addS_i <| wa_nil ⟨is_deck, rfl, use_num k (by omega) (le18 ?_) <| we_add <| we_var 2 rfl <| wd_callO GC <| we_var 4 rfl ⟨is_deck, wa_cons <| we_var 6 rfl <| wa_nil ⟨is_deck, rfl, use_num k2 x0 (le18 (by omega)) <| addS_i <| neS_same (turns_shift k k2 n1 x0) ⟨_, rfl, iteF <| wss_nil ?_⟩⟩⟩⟩⟩
  · have := len_small k n1 n2 c2 g2
    omega
  refine wss_cons <| ws_asg <| wd_meth Ga <| we_var 4 rfl <| on_deck <| wa_cons <| we_var 3 rfl <| wa_nil <| .intro rfl <| use_num k2 m1 (le18 (by omega)) <| wg_tup <| wgs_cons <| wg_name 7 <| wgs_cons <| wg_name 8 <| wgs_nil ?_
  refine wss_one <| ws_ret <| we_and <| we_c <| wc_eq <| wd_meth Ga <| we_var 1 rfl <| on_deck <| wa_cons <| we_add <| we_var 2 rfl <| we_var 3 rfl <| addS_i <| wa_nil <| .intro rfl <| use_num k (by omega) (le18 (by omega)) <| we_tup <| wa_cons <| we_add <| we_var 5 rfl <| we_var 7 rfl <| addS_i <| wa_cons <| we_add <| we_var 5 rfl <| we_var 8 rfl <| addS_i <| wa_nil <| .intro (fits rfl) <| eqS_same2 eA (by rw [show n + m + 1 = n + (m + 1) by omega, len_add]; omega) ⟨_, rfl, iteT <|
    we_one <| we_c <| wc_eq <| we_add <| we_sub <| we_var 8 rfl <| we_var 7 rfl <| subS_i <| we_int <| addS_i <| wd_ix GI <| we_var 4 rfl <| we_var 3 rfl ⟨is_deck, use_num k2 m1 (le18 (by omega)) <| eqS_same (by rw [len_succ]; omega) (hΦ o3 hr' hb')⟩⟩
abbrev s_law : Stmt := top 18
theorem sc_law : FnScope ["_law_script", "_law_row", "_law_turn", "_law_deck_here", "_law_most", "_law_turns", "_law_more", "_law_later", "_law_unlike", "_law_low", "_law_high"] ["_law_script"] (defScope s_law) := ⟨rfl, rfl, rfl, by decide +kernel, rfl, by decide +kernel, by decide +kernel⟩
theorem ok_law {f : Addr} {fd : FuncData} (F : Fun K "law" "law" s_law f fd) (B : Blt mg) (BT : BinT K τ.deck .RShift "int") (NF : PySem.W.notFirst K τ.deck (.ref τ.deck) = true) (G : DefD P w K mg base τ "_law_taken" 1 2 S_taken) (Gd : DefD P w K mg base τ "_law_deck" 5 2 S_ldeck) (Gg : DefD P w K mg base τ "_law_goes_on" 7 4 S_goes)
    (GR : BinD P w K mg base τ τ.deck .RShift 6 (S_rshift ε)) (GE : EqlD P w K mg base τ τ.deck 1 S_deck_eq) (GC : CalD P w K mg base τ τ.deck 3 2 (S_call ε)) (GI : ItmD P w K mg base τ τ.deck 2 (S_getitem ε)) (Pc : PrpD P w K mg base τ τ.deck "core" 1 S_core) (Pg : PrpD P w K mg base τ τ.deck "growth" 1 S_growth)
    (GO : CmtD P w K mg base τ "Deck" τ.deck "of_turns" 5 3 (S_of_turns τ ε)) (GU : DefD P w K mg base τ "first_unlike_cell" 1 2 S_unlike) (GRR : DefD P w K mg base τ "reading_range" 4 3 (S_rrange ε)) :
    FnOk P w K mg base (L2.CX P w) 8 f fd ["_law_script"] (spD K τ 1 S_law) := by
  refine fnD F sc_law fun cdv A outer s H E Ξ Γ ds o Φ hl hS => ?_
  obtain ⟨ns, rfl, hlen, hΦ⟩ := hS
  refine wss_cons <| ws_set 1 <| we_lstO <| wa_cons <| we_var 0 rfl <| wa_cons <| we_int <| wa_cons <| we_int <| wa_cons <| we_int <| wa_nil <| .intro (fits rfl) fun r hq => ?_
  refine wss_cons <| ws_forR1 B.m_range <| wa_cons <| we_int <| wa_nil ⟨_, rfl, by decide, by decide, forD_inv0 (fun _ δ' o' => ∃ x2 x3 x4 x5 x6 x7 x8 x9 x10, δ' = [some (.scr ns), some (.ref r), x2, x3, x4, x5, x6, x7, x8, x9, x10] ∧ Rowed r ns o') ⟨none, none, none, none, none, none, none, none, none, rfl, 0, 0, 0, by omega, updO_same⟩ (fun m0 d δ' o' e hI => ?_) (fun δ' o' hI => wss_one <| ws_ret <| we_bl <| hΦ _)⟩
  obtain ⟨x2, x3, x4, x5, x6, x7, x8, x9, x10, rfl, hr⟩ := hI
  refine wg_name 2 ?_
  refine wss_cons <| ws_set 3 <| wd_call Gd <| wa_cons <| we_var 1 rfl <| wa_cons <| we_ix <| we_lst <| wa_cons <| we_int <| wa_cons <| we_int <| wa_cons <| we_pow <| we_int <| we_int <| powS_5 <| wa_nil <| .intro (fits rfl) <| wd_call G <| wa_cons <| we_var 1 rfl <| wa_cons <| we_int <| wa_nil <| .intro rfl <| use_taken hr fun y1 o1 a1 b1 hr1 hb1 => pickD3 a1 b1 fun z hz => wa_nil <| .intro rfl <| use_ldeck hr1 fun c g o2 c1 c2 g1 g2 hr2 hb2 => ?_
  refine wss_cons <| ws_set 4 <| we_ix <| we_lst <| wa_cons <| we_int <| wa_cons <| we_int <| wa_cons <| we_int <| wa_nil <| .intro (fits rfl) <| wd_call G <| wa_cons <| we_var 1 rfl <| wa_cons <| we_int <| wa_nil <| .intro rfl <| use_taken hr2 fun y2 o3 a2 b2 hr3 hb3 => pickD3 a2 b2 fun most hm => ?_
  refine wss_cons <| ws_par 5 6 <| wa_cons <| wd_call G <| wa_cons <| we_var 1 rfl <| wa_cons <| we_var 4 rfl <| wa_nil <| .intro rfl <| use_taken hr3 fun n o4 n1 n2 hr4 hb4 => wa_cons <| wd_call G <| wa_cons <| we_var 1 rfl <| wa_cons <| we_var 4 rfl <| wa_nil <| .intro rfl <| use_taken hr4 fun m o5 m1 m2 hr5 hb5 => wa_nil ⟨_, _, rfl, ?_⟩
  have c2 : c ≤ 100000 := by omega
  have g2 : g ≤ 100000 := by omega
  have n2 : n ≤ 1000 := by omega
  have m2 : m ≤ 1000 := by omega
  have k : OkDeck c g := ⟨c1, by omega, g1, by omega⟩
  obtain ⟨k2, ng0, ng1⟩ := small_later c1 c2 g1 g2 n1 (show n ≤ 2000 by omega)
  obtain ⟨k3, -, -⟩ := small_later c1 c2 g1 g2 (show 0 ≤ n + m by omega) (show n + m ≤ 2000 by omega)
  obtain ⟨k0, -, -⟩ := small_later c1 c2 g1 g2 (show (0 : Int) ≤ 0 by omega) (show (0 : Int) ≤ 2000 by omega)
  have k3' : OkDeck (c + n * g + m * g) g := by rw [at_add]; exact k3
  have eg : (n + 1) * g = n * g + g := by rw [Int.add_mul, Int.one_mul]
  refine wss_cons <| ws_if <| wt_not <| wt_val <| wd_call Gg <| wa_cons <| we_var 1 rfl <| wa_cons <| we_var 3 rfl <| wa_cons <| we_var 5 rfl <| wa_cons <| we_var 6 rfl <| wa_nil <| .intro rfl ⟨r, ns, c, g, n, m, rfl, hr5, ⟨c1, c2, g1, g2⟩, n1, n2, m1, m2, fun o6 hr6 hb6 => ⟨_, rfl, iteF <| wss_nil ?_⟩⟩
  refine wss_cons <| ws_set 7 <| wd_binT GR <| we_var 3 rfl <| we_var 5 rfl ⟨is_deck, ty_int BT, use_rshift k n1 (le18 (by omega)) k2 ?_⟩
  refine wss_cons <| ws_if <| wt_w <| ww_or <| wt_not <| wt_c <| wcd_eq GE <| wd_binT GR <| we_var 7 rfl <| we_var 6 rfl ⟨is_deck, ty_int BT, use_rshift k2 m1 (le18 (by omega)) k3' <| wd_binT GR <| we_var 3 rfl <| we_add <| we_var 5 rfl <| we_var 6 rfl <| addS_i ⟨is_deck, ty_int BT, use_rshift k (by omega) (le18 (by omega)) k3 ⟨is_deck, nf_deck NF, use_deck_same at_add rfl ⟨_, rfl, iteF <|
    ww_or <| wt_c <| wc_ne <| wd_prop Pc <| we_var 7 rfl ⟨is_deck, use_core <| wd_ix GI <| we_var 3 rfl <| we_var 5 rfl ⟨is_deck, use_num k n1 (le18 (by omega)) <| neS_same rfl ⟨_, rfl, iteF <| ww_or1 <| wt_c <| wc_ne <| wd_prop Pg <| we_var 7 rfl ⟨is_deck, use_growth <| wd_prop Pg <| we_var 3 rfl ⟨is_deck, use_growth <| neS_same rfl ⟨_, rfl, iteF <| wss_nil ?_⟩⟩⟩⟩⟩⟩⟩⟩⟩⟩
  refine wss_cons <| ws_if <| wt_w <| ww_or <| wt_not <| wt_c <| wcd_eq GE <| wd_binT GR <| we_var 3 rfl <| we_int ⟨is_deck, ty_int BT, use_rshift k (by omega) (le18 (by omega)) k0 <| we_var 3 rfl ⟨is_deck, nf_deck NF, use_deck_same (by omega) rfl ⟨_, rfl, iteF <|
    ww_or1 <| wt_not <| wt_c <| wcd_eq GE <| wd_cmeth GO <| wa_cons <| wd_ix GI <| we_var 3 rfl <| we_var 5 rfl ⟨is_deck, use_num k n1 (le18 (by omega)) <| wa_cons <| wd_ix GI <| we_var 3 rfl <| we_add <| we_var 5 rfl <| we_int <| addS_i ⟨is_deck, use_num k (by omega) (le18 (by omega)) <| wa_nil <| .intro rfl <| use_of_turns k2.c1 k2.c2 (by omega) (by omega) <| we_var 7 rfl ⟨is_deck, nf_deck NF, use_deck_same rfl (by omega) ⟨_, rfl, iteF <| wss_nil ?_⟩⟩⟩⟩⟩⟩⟩
  refine wss_cons <| ws_set 8 <| wd_call GU <| wa_cons <| we_var 3 rfl <| wa_cons <| we_var 7 rfl <| wa_nil <| .intro rfl <| use_unlike k ?_
  by_cases hz : n * g = 0
  case' pos =>
    rw [unlike_same hz]
    have hor : ¬ n = 0 → g = 0 := fun z => (Int.mul_eq_zero.mp hz).resolve_left z
    refine wss_cons <| ws_if <| wt_c <| wc_ne <| we_c <| wc_isN <| we_var 8 rfl <| we_or <| we_c <| wc_eq <| we_var 5 rfl <| we_int <| eqS_i ⟨_, rfl, ite2 (fun h => neS_b rfl ⟨_, rfl, iteF <| wss_nil ?_⟩) (fun h => we_one <| we_c <| wc_eq <| wd_prop Pg <| we_var 3 rfl ⟨is_deck, use_growth <| we_int <| eqS_same (hor fun z => h (decide_eq_true z)) <| neS_b rfl ⟨_, rfl, iteF <| wss_nil ?_⟩⟩)⟩
    all_goals refine wss_cons <| ws_if <| wt_w <| ww_and <| wt_c <| wc_notN <| we_var 8 rfl ⟨_, rfl, iteF <| iteF <| wss_nil ?_⟩
  case' neg =>
    rw [unlike_less hz ng0]
    have hn : ¬ n = 0 := fun z => hz (by rw [z]; exact Int.zero_mul g)
    have hg : ¬ g = 0 := fun z => hz (by rw [z]; exact Int.mul_zero n)
    refine wss_cons <| ws_if <| wt_c <| wc_ne <| we_c <| wc_isN <| we_var 8 rfl <| we_or <| we_c <| wc_eq <| we_var 5 rfl <| we_int <| eqS_i ⟨_, rfl, ite2 (fun h => absurd (of_decide_eq_true h) hn) (fun h => we_one <| we_c <| wc_eq <| wd_prop Pg <| we_var 3 rfl ⟨is_deck, use_growth <| we_int <| eqS_i <| neS_b (by rw [decide_eq_false hg]; rfl) ⟨_, rfl, iteF <| wss_nil ?_⟩⟩)⟩
    refine wss_cons <| ws_if <| wt_w <| ww_and <| wt_c <| wc_notN <| we_var 8 rfl ⟨_, rfl, iteT <| ww_and1 <| wt_w <| ww_or <| wt_c <| wc_ne <| we_var 8 rfl <| wd_prop Pc <| we_var 3 rfl ⟨is_deck, use_core <| neS_same rfl ⟨_, rfl, iteF <| ww_or1 <| wt_c <| wc_ne <| wd_callO GC <| we_var 3 rfl ⟨is_deck, wa_cons <| we_var 8 rfl <| wa_nil ⟨is_deck, rfl, use_num k (by omega) (le18 (by omega)) <|
      we_add <| wd_callO GC <| we_var 7 rfl ⟨is_deck, wa_cons <| we_var 8 rfl <| wa_nil ⟨is_deck, rfl, use_num k2 (by omega) (le18 (by omega)) <| we_int <| addS_i <| neS_same (by rw [turns_first k, turns_zero k2 (by omega) (by omega)]; rfl) ⟨_, rfl, iteF <| wss_nil ?_⟩⟩⟩⟩⟩⟩⟩⟩
  all_goals
    have w0 := len_nonneg k m1
    have w1 := len_lt k m1
    have w2 := turns_mono k2 w0 (show len c g m ≤ len c g (m + 1) - 1 by omega)
    have w3 := turns_deck_le (x := len c g (m + 1) - 1) k k2 (by omega) (by omega) (by omega)
    rw [turns_last k m1] at w3
    refine wss_cons <| ws_asg <| wd_call GRR <| wa_cons <| we_var 3 rfl <| wa_cons <| we_var 7 rfl <| wa_cons <| we_var 6 rfl <| wa_nil <| .intro rfl <| use_rrange k k2 m1 (le18 (by omega)) <| wg_tup <| wgs_cons <| wg_name 9 <| wgs_cons <| wg_name 10 <| wgs_nil ?_
    exact wss_one <| ws_if <| wt_w <| ww_or <| wt_c <| wc_gt <| we_var 9 rfl <| we_var 10 rfl <| ltS_f (decide_eq_false (by omega)) ⟨_, rfl, iteF <| ww_or <| wt_c <| wc_gt <| we_var 10 rfl <| we_var 6 rfl <| ltS_f (decide_eq_false (by omega)) ⟨_, rfl, iteF <| ww_or1 <| wt_c <| wc_ne <| wd_call GRR <| wa_cons <| we_var 3 rfl <| wa_cons <| we_var 3 rfl <| wa_cons <| we_var 6 rfl <| wa_nil <| .intro rfl <| use_rrange k k m1 (le18 (by omega)) <|
      we_tup <| wa_cons <| we_var 6 rfl <| wa_cons <| we_var 6 rfl <| wa_nil <| .intro (fits rfl) <| neS_same2 (turns_len k m1) (turns_last k m1) ⟨_, rfl, iteF <| wss_nil ⟨_, _, _, _, _, _, _, _, _, rfl, hr6⟩⟩⟩⟩
end
end TC

set_option Elab.async false
set_option linter.all false
set_option maxRecDepth 100000
set_option maxHeartbeats 2000000
/-! Sp3: an exception's own __init__. -/
namespace TC
open PySem PySem.Spec PyProof.Rows L2 DL
theorem fmt_cases {v : V} (h : fmtV v) : (∃ y : Str, v = .str y ∧ y.length ≤ 1000) ∨ ∃ i : Int, v = .int i ∧ i.natAbs.log2 < 1920 := by
  cases v with
  | str y => exact .inl ⟨y, rfl, h⟩
  | int i => exact .inr ⟨i, rfl, h⟩
  | _ => exact h.elim
theorem fmt_fits {p y : Str} (hp : p.length ≤ 100) (hy : y.length ≤ 1921) : (Str.empty ++ p ++ y).length ≤ sizeLine := by
  rw [PySem.Str.length_append, PySem.Str.length_append]
  have : (Str.empty).length = 0 := rfl
  rw [PySem.sizeLine_eq]
  omega
theorem fmt_fits0 {p : Str} (hp : p.length ≤ 100) : (Str.empty ++ p).length ≤ sizeLine := by
  rw [PySem.Str.length_append]
  have : (Str.empty).length = 0 := rfl
  rw [PySem.sizeLine_eq]
  omega
end TC
namespace TC
open PySem PySem.Spec PyProof.Rows L2 DL
theorem no2 {K : PySem.W.Frag} {C : Addr} {a b : Str} (h1 : PySem.W.findIn K (.ref C) a = some none) (h2 : PySem.W.findIn K (.ref C) b = some none) : ∀ f ∈ ([a, b] : List Str), NoAttr K C f := fun f hf => by
  rcases List.mem_cons.mp hf with rfl | hf
  · exact h1
  · cases List.mem_singleton.mp hf
    exact h2
theorem no3 {K : PySem.W.Frag} {C : Addr} {a b c : Str} (h1 : PySem.W.findIn K (.ref C) a = some none) (h2 : PySem.W.findIn K (.ref C) b = some none) (h3 : PySem.W.findIn K (.ref C) c = some none) : ∀ f ∈ ([a, b, c] : List Str), NoAttr K C f := fun f hf => by
  rcases List.mem_cons.mp hf with rfl | hf
  · exact h1
  · exact no2 h2 h3 f hf
theorem kits6 {K : PySem.W.Frag} {C : Addr} (h1 : PySem.W.kitOne K (.type "NoneType") (.ref C) = some false) (h2 : PySem.W.kitOne K (.type "bool") (.ref C) = some false) (h3 : PySem.W.kitOne K (.type "int") (.ref C) = some false) (h4 : PySem.W.kitOne K (.type "str") (.ref C) = some false) (h5 : PySem.W.kitOne K (.type "tuple") (.ref C) = some false) (h6 : PySem.W.kitOne K (.type "list") (.ref C) = some false) :
    ∀ t ∈ (["NoneType", "bool", "int", "str", "tuple", "list"] : List String), PySem.W.kitOne K (.type t) (.ref C) = some false := fun t ht => by
  simp only [List.mem_cons, List.not_mem_nil, or_false] at ht
  rcases ht with rfl | rfl | rfl | rfl | rfl | rfl <;> assumption
theorem walk {l : PySem.W.OpenLaw} {q : Program} {loose : List Str} {XP : (Str → Option Value) → Heap → Prop} {YP : World → Heap → Prop} {d : DefRec} {K : Params → PySem.W.Frag} {k : Nat} (hk : k ≤ 30) (hn : l.most = some 63) (hdf : d.params.defaults = [])
    (hY : ∀ (w : World) (h : Heap), YP w h → (K w.params).In h)
    (F : ∀ (w : World) (mg : Str → Option Value) (fa : Addr) (h : Heap), (K w.params).In h → h.Ns mainGlobals mg → mg d.name = some (.ref fa) →
      ∃ fd : FuncData, (∀ (s : Shared) (u : Value), BindsTo s fd ⟨[u], []⟩ [("_law_script", u)]) ∧ ∀ base : Heap, (K w.params).In base → base.Ns mainGlobals mg → FnOk l.prog w (K w.params) mg base CX0 k fa fd ["_law_script"] (spLaw (K w.params))) :
    PySem.W.WalkO q loose XP YP l.row.toRowW d [] (fun f vs => PySem.call f vs) :=
  L2.walk_of (n := 63) (k := k) (x := "_law_script") (CX := fun _ => CX0) (sp := fun w => spLaw (K w.params)) hn (by decide) hdf (Room.mono (k := 30) ⟨rfl, by decide, by decide⟩ hk) hY F (fun _ _ a ns hl _ hS => ⟨a, ns, rfl, hS, hl, fun _ => rfl⟩) fun _ _ _ _ _ z => z
end TC
namespace TC
open PySem PySem.Spec PyProof.Rows L2 DL
theorem kit_own {K : PySem.W.Frag} {C : Addr} {t : String} (h1 : PySem.W.isClsIn K C = true) (h2 : PySem.W.typeIn K (.ref C) = some (.type "type")) (h3 : PySem.W.subIn K (.type t) (.ref C) = some false) : PySem.W.kitOne K (.type t) (.ref C) = some false := by
  unfold PySem.W.kitOne
  rw [if_neg (by simp)]
  unfold PySem.W.kitCls
  have h1' : (PySem.W.clsIn K C).isSome = true := h1
  show (if ((PySem.W.clsIn K C).isSome && PySem.W.typeIn K (.ref C) == some (.type "type")) = true then PySem.W.subIn K (.type t) (.ref C) else none) = some false
  rw [h1', h2, h3]
  rfl
end TC

set_option Elab.async false
set_option linter.all false
set_option maxRecDepth 100000
set_option maxHeartbeats 4000000
namespace TC
open PySem PySem.Spec PyProof.Rows L2 DL
section
variable {P : Program} {w : World} {K : PySem.W.Frag} {mg : Str → Option Value} {base : Heap} {τ : Tx} {ε : Excs}
abbrev s_xDeck : Stmt := inClass (top 2) 0
theorem sc_xDeck : FnScope ["self", "part"] ["self", "part"] (defScope s_xDeck) := ⟨rfl, rfl, rfl, by decide +kernel, rfl, by decide +kernel, by decide +kernel⟩
theorem ok_xDeck {f C R : Addr} {fd : FuncData} (F : Fun K "__init__" "InvalidDeck.__init__" s_xDeck f fd) (T : OexC K C) (hno : PySem.W.findIn K (.ref C) "part" = some none) (TB : BaseI K mg "TapeError" R) : FnOk P w K mg base (L2.CX P w) 1 f fd ["self", "part"] (spX1 C "part") := by
  refine F.okX sc_xDeck (fun vs H Q E h => ?_) (fun cdv A outer s H vs Q E hr h => ?_)
  · obtain ⟨a, v, rfl, _⟩ := h
    rfl
  · obtain ⟨a, v, rfl, ha, hf, hk⟩ := h
    refine ⟨_, pss_cons (ps_expr (pe_bainit TB (pa_cons (pv 0) (pa_cons (pe_joined (.cons pe_str (.cons (pe_fmt (pv 1)) .nil))) pa_nil)))) (pss_one (ps_ost (pv 0) (pv 1))), ?_⟩
    refine ⟨_, rfl, ?_⟩
    refine ⟨_, rfl, fmt_fits0 (by decide +kernel), _, rfl, ?_⟩
    rcases fmt_cases hf with ⟨y, rfl, hy⟩ | ⟨i, rfl, hi⟩
    · exact .inl ⟨_, rfl, Nat.le_trans hy (by decide), _, rfl, fmt_fits (by decide +kernel) (Nat.le_trans hy (by decide)), a, C, _, rfl, Nat.le_of_ble_eq_true rfl, T, ha, _, rfl, _, rfl, a, C, rfl, T, hno, .inl ⟨ha, fun d hd hda => hk d hd hda⟩⟩
    · exact .inr ⟨_, rfl, hi, _, rfl, fmt_fits (by decide +kernel) (int_text_len_1921 hi), a, C, _, rfl, Nat.le_of_ble_eq_true rfl, T, ha, _, rfl, _, rfl, a, C, rfl, T, hno, .inl ⟨ha, fun d hd hda => hk d hd hda⟩⟩
end
end TC

set_option Elab.async false
set_option linter.all false
set_option maxRecDepth 100000
set_option maxHeartbeats 4000000
namespace TC
open PySem PySem.Spec PyProof.Rows L2 DL
theorem all_mk {l : PySem.W.OpenLaw} {w : World} {K : PySem.W.Frag} {h : Heap} {mg : Str → Option Value} {fa : Addr} (X : K.In h) (G : h.Ns mainGlobals mg) (hfa : mg "law" = some (.ref fa))
    {fisint : Addr} {odisint anisint : Option Addr} {slisint : Array (Option Value)} {ocisint kVisint dcisint pmisint cdisint ctisint : Value} {CInvalidNumber : Addr} {fcheck : Addr} {odcheck ancheck : Option Addr} {slcheck : Array (Option Value)} {occheck kVcheck dccheck pmcheck cdcheck ctcheck : Value} {CDeck : Addr} {tMC tMN : Tok} {CInvalidDeck : Addr} {CTapeError : Addr} {fInvalidDeck : Addr} {odInvalidDeck anInvalidDeck : Option Addr} {slInvalidDeck : Array (Option Value)} {ocInvalidDeck kVInvalidDeck dcInvalidDeck pmInvalidDeck cdInvalidDeck ctInvalidDeck : Value} {nmInvalidDeck qnInvalidDeck NInvalidDeck bsInvalidDeck bmInvalidDeck snInvalidDeck subInvalidDeck abInvalidDeck colInvalidDeck ddInvalidDeck kaInvalidDeck kbInvalidDeck kcInvalidDeck kdInvalidDeck keInvalidDeck} {fDinit : Addr} {odDinit anDinit : Option Addr} {slDinit : Array (Option Value)} {ocDinit kVDinit dcDinit pmDinit cdDinit ctDinit : Value} {fcore : Addr} {odcore ancore : Option Addr} {slcore : Array (Option Value)} {occore kVcore dccore pmcore cdcore ctcore : Value} {pcore : Addr} {recore : List Value} {fgrowth : Addr} {odgrowth angrowth : Option Addr} {slgrowth : Array (Option Value)} {ocgrowth kVgrowth dcgrowth pmgrowth cdgrowth ctgrowth : Value} {pgrowth : Addr} {regrowth : List Value} {fgetitem : Addr} {odgetitem angetitem : Option Addr} {slgetitem : Array (Option Value)} {ocgetitem kVgetitem dcgetitem pmgetitem cdgetitem ctgetitem : Value} {flength_of : Addr} {odlength_of anlength_of : Option Addr} {sllength_of : Array (Option Value)} {oclength_of kVlength_of dclength_of pmlength_of cdlength_of ctlength_of : Value} {fturns_in : Addr} {odturns_in anturns_in : Option Addr} {slturns_in : Array (Option Value)} {octurns_in kVturns_in dcturns_in pmturns_in cdturns_in ctturns_in : Value} {fcall : Addr} {odcall ancall : Option Addr} {slcall : Array (Option Value)} {occall kVcall dccall pmcall cdcall ctcall : Value} {fcells : Addr} {odcells ancells : Option Addr} {slcells : Array (Option Value)} {occells kVcells dccells pmcells cdcells ctcells : Value} {fcells_at : Addr} {odcells_at ancells_at : Option Addr} {slcells_at : Array (Option Value)} {occells_at kVcells_at dccells_at pmcells_at cdcells_at ctcells_at : Value} {flater : Addr} {odlater anlater : Option Addr} {sllater : Array (Option Value)} {oclater kVlater dclater pmlater cdlater ctlater : Value} {frshift : Addr} {odrshift anrshift : Option Addr} {slrshift : Array (Option Value)} {ocrshift kVrshift dcrshift pmrshift cdrshift ctrshift : Value} {fof_turns : Addr} {odof_turns anof_turns : Option Addr} {slof_turns : Array (Option Value)} {ocof_turns kVof_turns dcof_turns pmof_turns cdof_turns ctof_turns : Value} {pof_turns : Addr} {reof_turns : List Value} {fdeq : Addr} {oddeq andeq : Option Addr} {sldeq : Array (Option Value)} {ocdeq kVdeq dcdeq pmdeq cddeq ctdeq : Value} {frrange : Addr} {odrrange anrrange : Option Addr} {slrrange : Array (Option Value)} {ocrrange kVrrange dcrrange pmrrange cdrrange ctrrange : Value} {funlike : Addr} {odunlike anunlike : Option Addr} {slunlike : Array (Option Value)} {ocunlike kVunlike dcunlike pmunlike cdunlike ctunlike : Value} {ftaken : Addr} {odtaken antaken : Option Addr} {sltaken : Array (Option Value)} {octaken kVtaken dctaken pmtaken cdtaken cttaken : Value} {fgreat : Addr} {odgreat angreat : Option Addr} {slgreat : Array (Option Value)} {ocgreat kVgreat dcgreat pmgreat cdgreat ctgreat : Value} {fldeck : Addr} {odldeck anldeck : Option Addr} {slldeck : Array (Option Value)} {ocldeck kVldeck dcldeck pmldeck cdldeck ctldeck : Value} {fars fbrs : Option Value} {fgoes : Addr} {odgoes angoes : Option Addr} {slgoes : Array (Option Value)} {ocgoes kVgoes dcgoes pmgoes cdgoes ctgoes : Value} {flaw : Addr} {odlaw anlaw : Option Addr} {sllaw : Array (Option Value)} {oclaw kVlaw dclaw pmlaw cdlaw ctlaw : Value}
    (lisint : K.lookup fisint = some ⟨ocisint, odisint, .func (PySem.W.fnOf "is_integer" "is_integer" (defArgs s_isint) (defBody s_isint) (defScope s_isint) .none kVisint dcisint pmisint anisint cdisint ctisint), slisint⟩)
    (cisint : PySem.W.codeIn K cdisint "is_integer" = true)
    (kisint : PySem.W.keepIn K (.ref fisint) = true)
    (aisint : PySem.W.nsIn K mainGlobals "is_integer" = some (some (.ref fisint)))
    (gInvalidNumber : PySem.W.nsIn K mainGlobals "InvalidNumber" = some (some (.ref CInvalidNumber)))
    (xeInvalidNumber : PySem.W.excIn K CInvalidNumber [.type "ValueError", .type "Exception", .type "BaseException", .type "object"] "ValueError.__new__" = true)
    (xkInvalidNumber : PySem.W.keepIn K (.ref CInvalidNumber) = true)
    (xsInvalidNumber : PySem.W.subIn K (.ref CInvalidNumber) (.type "BaseException") = some true)
    (xtInvalidNumber : PySem.W.typeIn K (.ref CInvalidNumber) = some (.type "type"))
    (lcheck : K.lookup fcheck = some ⟨occheck, odcheck, .func (PySem.W.fnOf "check_number" "check_number" (defArgs s_check) (defBody s_check) (defScope s_check) .none kVcheck dccheck pmcheck ancheck cdcheck ctcheck), slcheck⟩)
    (ccheck : PySem.W.codeIn K cdcheck "check_number" = true)
    (kcheck : PySem.W.keepIn K (.ref fcheck) = true)
    (acheck : PySem.W.nsIn K mainGlobals "check_number" = some (some (.ref fcheck)))
    (gDeck : PySem.W.nsIn K mainGlobals "Deck" = some (some (.ref CDeck)))
    (pgDeck : PySem.W.plainGet K CDeck Str.empty = true)
    (hdDeck : PySem.W.hasDictIn K CDeck = true)
    (poDeck : PySem.W.plainOver K CDeck = true)
    (saDeck : PySem.W.findIn K (.ref CDeck) "__setattr__" = some (some (.builtin "object.__setattr__")))
    (iaDeck : PySem.W.findIn K (.ref CDeck) "__class__" = some (some (.builtin "object.__class__")))
    (ib : PySem.W.specialIn K (.builtin "object.__class__") "__get__" = some (some (.builtin "getset_descriptor.__get__")))
    (it : PySem.W.takesIn K (.builtin "object.__class__") = some true)
    (imDeck : PySem.W.mroIn K CDeck (.type "object") = some true)
    (sDeckNoneType : PySem.W.subIn K (.type "NoneType") (.ref CDeck) = some false)
    (sDeckbool : PySem.W.subIn K (.type "bool") (.ref CDeck) = some false)
    (sDeckint : PySem.W.subIn K (.type "int") (.ref CDeck) = some false)
    (sDeckstr : PySem.W.subIn K (.type "str") (.ref CDeck) = some false)
    (sDecktuple : PySem.W.subIn K (.type "tuple") (.ref CDeck) = some false)
    (sDecklist : PySem.W.subIn K (.type "list") (.ref CDeck) = some false)
    (icDeck : PySem.W.isClsIn K CDeck = true)
    (tyDeck : PySem.W.typeIn K (.ref CDeck) = some (.type "type"))
    (nDeckfirst : PySem.W.findIn K (.ref CDeck) "first" = some none)
    (nDeckmore : PySem.W.findIn K (.ref CDeck) "more" = some none)
    (mMC : PySem.W.nsIn K mainGlobals "MAX_CORE_decks" = some (some (.int 1000000000 tMC)))
    (mMN : PySem.W.nsIn K mainGlobals "MAX_NUMBER" = some (some (.int 1000000000000000000 tMN)))
    (gInvalidDeck : PySem.W.nsIn K mainGlobals "InvalidDeck" = some (some (.ref CInvalidDeck)))
    (gTapeError : PySem.W.nsIn K mainGlobals "TapeError" = some (some (.ref CTapeError)))
    (rdTapeError : PySem.W.readsIn K CTapeError (.type "type") = true)
    (gaTapeError : PySem.W.specialIn K (.ref CTapeError) "__getattribute__" = some (some (.builtin "type.__getattribute__")))
    (tI : PySem.W.findCls K (.ref CTapeError) (.type "type") "__init__" = some (.val (.builtin "ValueError.__init__")))
    (lInvalidDeck : K.lookup fInvalidDeck = some ⟨ocInvalidDeck, odInvalidDeck, .func (PySem.W.fnOf "__init__" "InvalidDeck.__init__" (defArgs s_xDeck) (defBody s_xDeck) (defScope s_xDeck) .none kVInvalidDeck dcInvalidDeck pmInvalidDeck anInvalidDeck cdInvalidDeck ctInvalidDeck), slInvalidDeck⟩)
    (cInvalidDeck : PySem.W.codeIn K cdInvalidDeck "InvalidDeck.__init__" = true)
    (kInvalidDeck : PySem.W.keepIn K (.ref fInvalidDeck) = true)
    (xkInvalidDeck : PySem.W.keepIn K (.ref CInvalidDeck) = true)
    (xsInvalidDeck : PySem.W.subIn K (.ref CInvalidDeck) (.type "BaseException") = some true)
    (xtInvalidDeck : PySem.W.typeIn K (.ref CInvalidDeck) = some (.type "type"))
    (xaInvalidDeck : PySem.W.findIn K (.ref CInvalidDeck) "__setattr__" = some (some (.builtin "object.__setattr__")))
    (xiInvalidDeck : PySem.W.findIn K (.ref CInvalidDeck) "__init__" = some (some (.ref fInvalidDeck)))
    (xjInvalidDeck : PySem.W.typeIn K (.ref fInvalidDeck) = some (.type "function"))
    (xnInvalidDeck : PySem.W.findIn K (.ref CInvalidDeck) "part" = some none)
    (xlInvalidDeck : K.lookup CInvalidDeck = some (excClassObj nmInvalidDeck qnInvalidDeck CInvalidDeck NInvalidDeck bsInvalidDeck bmInvalidDeck true snInvalidDeck subInvalidDeck abInvalidDeck colInvalidDeck ddInvalidDeck kaInvalidDeck kbInvalidDeck kcInvalidDeck kdInvalidDeck keInvalidDeck "ValueError.__new__"))
    (xrInvalidDeck : PySem.HandSPX.refsVE bmInvalidDeck = true)
    (lDinit : K.lookup fDinit = some ⟨ocDinit, odDinit, .func (PySem.W.fnOf "__init__" "Deck.__init__" (defArgs s_Deck_init) (defBody s_Deck_init) (defScope s_Deck_init) .none kVDinit dcDinit pmDinit anDinit cdDinit ctDinit), slDinit⟩)
    (cDinit : PySem.W.codeIn K cdDinit "Deck.__init__" = true)
    (kDinit : PySem.W.keepIn K (.ref fDinit) = true)
    (mkDeck : PySem.W.makesIn K CDeck = true)
    (kpDeck : PySem.W.keepIn K (.ref CDeck) = true)
    (aDinit : PySem.W.findIn K (.ref CDeck) "__init__" = some (some (.ref fDinit)))
    (iDinit : PySem.W.isFn K (.ref fDinit) = true)
    (lcore : K.lookup fcore = some ⟨occore, odcore, .func (PySem.W.fnOf "core" "Deck.core" (defArgs s_core) (defBody s_core) (defScope s_core) .none kVcore dccore pmcore ancore cdcore ctcore), slcore⟩)
    (ccore : PySem.W.codeIn K cdcore "Deck.core" = true)
    (kcore : PySem.W.keepIn K (.ref fcore) = true)
    (acore : PySem.W.findIn K (.ref CDeck) "core" = some (some (.ref pcore)))
    (pgcore : PySem.W.specialIn K (.ref pcore) "__get__" = some (some (.builtin "property.__get__")))
    (ptcore : PySem.W.takesIn K (.ref pcore) = some true)
    (prcore : PySem.W.recIn K pcore "property" = some (.ref fcore :: recore))
    (lgrowth : K.lookup fgrowth = some ⟨ocgrowth, odgrowth, .func (PySem.W.fnOf "growth" "Deck.growth" (defArgs s_growth) (defBody s_growth) (defScope s_growth) .none kVgrowth dcgrowth pmgrowth angrowth cdgrowth ctgrowth), slgrowth⟩)
    (cgrowth : PySem.W.codeIn K cdgrowth "Deck.growth" = true)
    (kgrowth : PySem.W.keepIn K (.ref fgrowth) = true)
    (agrowth : PySem.W.findIn K (.ref CDeck) "growth" = some (some (.ref pgrowth)))
    (pggrowth : PySem.W.specialIn K (.ref pgrowth) "__get__" = some (some (.builtin "property.__get__")))
    (ptgrowth : PySem.W.takesIn K (.ref pgrowth) = some true)
    (prgrowth : PySem.W.recIn K pgrowth "property" = some (.ref fgrowth :: regrowth))
    (lgetitem : K.lookup fgetitem = some ⟨ocgetitem, odgetitem, .func (PySem.W.fnOf "__getitem__" "Deck.__getitem__" (defArgs s_getitem) (defBody s_getitem) (defScope s_getitem) .none kVgetitem dcgetitem pmgetitem angetitem cdgetitem ctgetitem), slgetitem⟩)
    (cgetitem : PySem.W.codeIn K cdgetitem "Deck.__getitem__" = true)
    (kgetitem : PySem.W.keepIn K (.ref fgetitem) = true)
    (agetitem : PySem.W.findIn K (.ref CDeck) "__getitem__" = some (some (.ref fgetitem)))
    (igetitem : PySem.W.isFn K (.ref fgetitem) = true)
    (ngetitem : PySem.W.fnIn K fgetitem = true)
    (llength_of : K.lookup flength_of = some ⟨oclength_of, odlength_of, .func (PySem.W.fnOf "length_of" "Deck.length_of" (defArgs s_length_of) (defBody s_length_of) (defScope s_length_of) .none kVlength_of dclength_of pmlength_of anlength_of cdlength_of ctlength_of), sllength_of⟩)
    (clength_of : PySem.W.codeIn K cdlength_of "Deck.length_of" = true)
    (klength_of : PySem.W.keepIn K (.ref flength_of) = true)
    (alength_of : PySem.W.findIn K (.ref CDeck) "length_of" = some (some (.ref flength_of)))
    (ilength_of : PySem.W.isFn K (.ref flength_of) = true)
    (lturns_in : K.lookup fturns_in = some ⟨octurns_in, odturns_in, .func (PySem.W.fnOf "turns_in" "Deck.turns_in" (defArgs s_turns_in) (defBody s_turns_in) (defScope s_turns_in) .none kVturns_in dcturns_in pmturns_in anturns_in cdturns_in ctturns_in), slturns_in⟩)
    (cturns_in : PySem.W.codeIn K cdturns_in "Deck.turns_in" = true)
    (kturns_in : PySem.W.keepIn K (.ref fturns_in) = true)
    (aturns_in : PySem.W.findIn K (.ref CDeck) "turns_in" = some (some (.ref fturns_in)))
    (iturns_in : PySem.W.isFn K (.ref fturns_in) = true)
    (lcall : K.lookup fcall = some ⟨occall, odcall, .func (PySem.W.fnOf "__call__" "Deck.__call__" (defArgs s_call) (defBody s_call) (defScope s_call) .none kVcall dccall pmcall ancall cdcall ctcall), slcall⟩)
    (ccall : PySem.W.codeIn K cdcall "Deck.__call__" = true)
    (kcall : PySem.W.keepIn K (.ref fcall) = true)
    (acall : PySem.W.findIn K (.ref CDeck) "__call__" = some (some (.ref fcall)))
    (icall : PySem.W.isFn K (.ref fcall) = true)
    (ncall : PySem.W.fnIn K fcall = true)
    (lcells : K.lookup fcells = some ⟨occells, odcells, .func (PySem.W.fnOf "cells" "Deck.cells" (defArgs s_cells) (defBody s_cells) (defScope s_cells) .none kVcells dccells pmcells ancells cdcells ctcells), slcells⟩)
    (ccells : PySem.W.codeIn K cdcells "Deck.cells" = true)
    (kcells : PySem.W.keepIn K (.ref fcells) = true)
    (acells : PySem.W.findIn K (.ref CDeck) "cells" = some (some (.ref fcells)))
    (icells : PySem.W.isFn K (.ref fcells) = true)
    (lcells_at : K.lookup fcells_at = some ⟨occells_at, odcells_at, .func (PySem.W.fnOf "cells_at" "Deck.cells_at" (defArgs s_cells_at) (defBody s_cells_at) (defScope s_cells_at) .none kVcells_at dccells_at pmcells_at ancells_at cdcells_at ctcells_at), slcells_at⟩)
    (ccells_at : PySem.W.codeIn K cdcells_at "Deck.cells_at" = true)
    (kcells_at : PySem.W.keepIn K (.ref fcells_at) = true)
    (acells_at : PySem.W.findIn K (.ref CDeck) "cells_at" = some (some (.ref fcells_at)))
    (icells_at : PySem.W.isFn K (.ref fcells_at) = true)
    (llater : K.lookup flater = some ⟨oclater, odlater, .func (PySem.W.fnOf "later_deck" "later_deck" (defArgs s_later) (defBody s_later) (defScope s_later) .none kVlater dclater pmlater anlater cdlater ctlater), sllater⟩)
    (clater : PySem.W.codeIn K cdlater "later_deck" = true)
    (klater : PySem.W.keepIn K (.ref flater) = true)
    (alater : PySem.W.nsIn K mainGlobals "later_deck" = some (some (.ref flater)))
    (lrshift : K.lookup frshift = some ⟨ocrshift, odrshift, .func (PySem.W.fnOf "__rshift__" "Deck.__rshift__" (defArgs s_rshift) (defBody s_rshift) (defScope s_rshift) .none kVrshift dcrshift pmrshift anrshift cdrshift ctrshift), slrshift⟩)
    (crshift : PySem.W.codeIn K cdrshift "Deck.__rshift__" = true)
    (krshift : PySem.W.keepIn K (.ref frshift) = true)
    (sfDeck : PySem.W.selfFirst K CDeck = true)
    (arshift : PySem.W.findIn K (.ref CDeck) "__rshift__" = some (some (.ref frshift)))
    (irshift : PySem.W.isFn K (.ref frshift) = true)
    (lof_turns : K.lookup fof_turns = some ⟨ocof_turns, odof_turns, .func (PySem.W.fnOf "of_turns" "Deck.of_turns" (defArgs s_of_turns) (defBody s_of_turns) (defScope s_of_turns) .none kVof_turns dcof_turns pmof_turns anof_turns cdof_turns ctof_turns), slof_turns⟩)
    (cof_turns : PySem.W.codeIn K cdof_turns "Deck.of_turns" = true)
    (kof_turns : PySem.W.keepIn K (.ref fof_turns) = true)
    (rdDeck : PySem.W.readsIn K CDeck (.type "type") = true)
    (gaDeck : PySem.W.specialIn K (.ref CDeck) "__getattribute__" = some (some (.builtin "type.__getattribute__")))
    (aof_turns : PySem.W.findCls K (.ref CDeck) (.type "type") "of_turns" = some (.get (.builtin "classmethod.__get__") (.ref pof_turns) .none (.ref CDeck)))
    (prof_turns : PySem.W.recIn K pof_turns "classmethod" = some (.ref fof_turns :: reof_turns))
    (nof_turns : PySem.W.fnIn K fof_turns = true)
    (ldeq : K.lookup fdeq = some ⟨ocdeq, oddeq, .func (PySem.W.fnOf "__eq__" "Deck.__eq__" (defArgs s_deck_eq) (defBody s_deck_eq) (defScope s_deck_eq) .none kVdeq dcdeq pmdeq andeq cddeq ctdeq), sldeq⟩)
    (cdeq : PySem.W.codeIn K cddeq "Deck.__eq__" = true)
    (kdeq : PySem.W.keepIn K (.ref fdeq) = true)
    (adeq : PySem.W.findIn K (.ref CDeck) "__eq__" = some (some (.ref fdeq)))
    (ideq : PySem.W.isFn K (.ref fdeq) = true)
    (lrrange : K.lookup frrange = some ⟨ocrrange, odrrange, .func (PySem.W.fnOf "reading_range" "reading_range" (defArgs s_rrange) (defBody s_rrange) (defScope s_rrange) .none kVrrange dcrrange pmrrange anrrange cdrrange ctrrange), slrrange⟩)
    (crrange : PySem.W.codeIn K cdrrange "reading_range" = true)
    (krrange : PySem.W.keepIn K (.ref frrange) = true)
    (arrange : PySem.W.nsIn K mainGlobals "reading_range" = some (some (.ref frrange)))
    (lunlike : K.lookup funlike = some ⟨ocunlike, odunlike, .func (PySem.W.fnOf "first_unlike_cell" "first_unlike_cell" (defArgs s_unlike) (defBody s_unlike) (defScope s_unlike) .none kVunlike dcunlike pmunlike anunlike cdunlike ctunlike), slunlike⟩)
    (cunlike : PySem.W.codeIn K cdunlike "first_unlike_cell" = true)
    (kunlike : PySem.W.keepIn K (.ref funlike) = true)
    (aunlike : PySem.W.nsIn K mainGlobals "first_unlike_cell" = some (some (.ref funlike)))
    (ltaken : K.lookup ftaken = some ⟨octaken, odtaken, .func (PySem.W.fnOf "_law_taken" "_law_taken" (defArgs s_taken) (defBody s_taken) (defScope s_taken) .none kVtaken dctaken pmtaken antaken cdtaken cttaken), sltaken⟩)
    (ctaken : PySem.W.codeIn K cdtaken "_law_taken" = true)
    (ktaken : PySem.W.keepIn K (.ref ftaken) = true)
    (ataken : PySem.W.nsIn K mainGlobals "_law_taken" = some (some (.ref ftaken)))
    (lgreat : K.lookup fgreat = some ⟨ocgreat, odgreat, .func (PySem.W.fnOf "_law_great" "_law_great" (defArgs s_great) (defBody s_great) (defScope s_great) .none kVgreat dcgreat pmgreat angreat cdgreat ctgreat), slgreat⟩)
    (cgreat : PySem.W.codeIn K cdgreat "_law_great" = true)
    (kgreat : PySem.W.keepIn K (.ref fgreat) = true)
    (agreat : PySem.W.nsIn K mainGlobals "_law_great" = some (some (.ref fgreat)))
    (lldeck : K.lookup fldeck = some ⟨ocldeck, odldeck, .func (PySem.W.fnOf "_law_deck" "_law_deck" (defArgs s_ldeck) (defBody s_ldeck) (defScope s_ldeck) .none kVldeck dcldeck pmldeck anldeck cdldeck ctldeck), slldeck⟩)
    (cldeck : PySem.W.codeIn K cdldeck "_law_deck" = true)
    (kldeck : PySem.W.keepIn K (.ref fldeck) = true)
    (aldeck : PySem.W.nsIn K mainGlobals "_law_deck" = some (some (.ref fldeck)))
    (bt1rs : PySem.W.findIn K (.ref CDeck) (PySem.dunderR (Operator.RShift).info.2) = some none)
    (bt2rs : PySem.W.findIn K (.type "int") (PySem.dunder (Operator.RShift).info.2) = some fars)
    (bt3rs : PySem.W.findIn K (.type "int") (PySem.dunderR (Operator.RShift).info.2) = some fbrs)
    (bt4rs : PySem.W.subIn K (.type "int") (.ref CDeck) = some false)
    (nf : PySem.W.notFirst K CDeck (.ref CDeck) = true)
    (lgoes : K.lookup fgoes = some ⟨ocgoes, odgoes, .func (PySem.W.fnOf "_law_goes_on" "_law_goes_on" (defArgs s_goes) (defBody s_goes) (defScope s_goes) .none kVgoes dcgoes pmgoes angoes cdgoes ctgoes), slgoes⟩)
    (cgoes : PySem.W.codeIn K cdgoes "_law_goes_on" = true)
    (kgoes : PySem.W.keepIn K (.ref fgoes) = true)
    (agoes : PySem.W.nsIn K mainGlobals "_law_goes_on" = some (some (.ref fgoes)))
    (llaw : K.lookup flaw = some ⟨oclaw, odlaw, .func (PySem.W.fnOf "law" "law" (defArgs s_law) (defBody s_law) (defScope s_law) .none kVlaw dclaw pmlaw anlaw cdlaw ctlaw), sllaw⟩)
    (claw : PySem.W.codeIn K cdlaw "law" = true)
    (klaw : PySem.W.keepIn K (.ref flaw) = true)
    (alaw : PySem.W.nsIn K mainGlobals "law" = some (some (.ref flaw)))
    (z_isinstance : PySem.W.nsIn K mainGlobals "isinstance" = some none)
    (z_int : PySem.W.nsIn K mainGlobals "int" = some none)
    (z_bool : PySem.W.nsIn K mainGlobals "bool" = some none)
    (z_len : PySem.W.nsIn K mainGlobals "len" = some none)
    (z_range : PySem.W.nsIn K mainGlobals "range" = some none)
    (z_min : PySem.W.nsIn K mainGlobals "min" = some none)
    (z_max : PySem.W.nsIn K mainGlobals "max" = some none)
    (z_abs : PySem.W.nsIn K mainGlobals "abs" = some none)
    (z_sum : PySem.W.nsIn K mainGlobals "sum" = some none)
    (z_list : PySem.W.nsIn K mainGlobals "list" = some none)
    (z_tuple : PySem.W.nsIn K mainGlobals "tuple" = some none)
    (z_set : PySem.W.nsIn K mainGlobals "set" = some none)
    (z_sorted : PySem.W.nsIn K mainGlobals "sorted" = some none)
    (z_dict : PySem.W.nsIn K mainGlobals "dict" = some none)
    (z_enumerate : PySem.W.nsIn K mainGlobals "enumerate" = some none)
    (z_zip : PySem.W.nsIn K mainGlobals "zip" = some none)
    (z_all : PySem.W.nsIn K mainGlobals "all" = some none)
    (z_any : PySem.W.nsIn K mainGlobals "any" = some none)
    (z_str : PySem.W.nsIn K mainGlobals "str" = some none)
    (z_bytes : PySem.W.nsIn K mainGlobals "bytes" = some none) :
    ∃ fd : FuncData, (∀ (s : Shared) (v : Value), BindsTo s fd ⟨[v], []⟩ [("_law_script", v)]) ∧ ∀ base : Heap, K.In base → base.Ns mainGlobals mg → FnOk l.prog w K mg base CX0 8 fa fd ["_law_script"] (spLaw K) := by
  have e := hfa.symm.trans (PySem.W.mg_of X G alaw)
  cases e
  refine ⟨PySem.W.fnOf "law" "law" (defArgs s_law) (defBody s_law) (defScope s_law) .none kVlaw dclaw pmlaw anlaw cdlaw ctlaw, fun s v => .of_eq rfl, fun base _ _ => ?_⟩
  let τ : Tx := ⟨CDeck, CDeck⟩
  let ε : Excs := ⟨CInvalidNumber, CInvalidDeck⟩
  have B : Blt mg := ⟨PySem.W.mg_none_of X G z_isinstance, PySem.W.mg_none_of X G z_int, PySem.W.mg_none_of X G z_bool, PySem.W.mg_none_of X G z_len, PySem.W.mg_none_of X G z_range, PySem.W.mg_none_of X G z_min, PySem.W.mg_none_of X G z_max, PySem.W.mg_none_of X G z_abs, PySem.W.mg_none_of X G z_sum, PySem.W.mg_none_of X G z_list, PySem.W.mg_none_of X G z_tuple, PySem.W.mg_none_of X G z_set, PySem.W.mg_none_of X G z_sorted, PySem.W.mg_none_of X G z_dict, PySem.W.mg_none_of X G z_enumerate, PySem.W.mg_none_of X G z_zip, PySem.W.mg_none_of X G z_all, PySem.W.mg_none_of X G z_any, PySem.W.mg_none_of X G z_str, PySem.W.mg_none_of X G z_bytes⟩
  have Fisint := fun_mk (st := s_isint) lisint cisint kisint
  have bisint := Fisint.binds (ps := ["value", "low", "high"]) fun _ _ _ _ _ _ us hl => match us, hl with | [_, _, _], _ => rfl
  have oisint : FnD l.prog w K mg base τ 1 fisint 3 (S_isint) := FnD.of Fisint (ok_isint Fisint B) bisint
  have Gisint : DefD l.prog w K mg base τ "is_integer" 1 3 (S_isint) := ⟨_, PySem.W.mg_of X G aisint, oisint⟩
  have XInvalidNumber : ExcN K mg "InvalidNumber" CInvalidNumber := ⟨PySem.W.mg_of X G gInvalidNumber, xeInvalidNumber, xkInvalidNumber, xsInvalidNumber, xtInvalidNumber⟩
  have Fcheck := fun_mk (st := s_check) lcheck ccheck kcheck
  have bcheck := Fcheck.binds (ps := ["number", "low", "high"]) fun _ _ _ _ _ _ us hl => match us, hl with | [_, _, _], _ => rfl
  have ocheck : FnD l.prog w K mg base τ 2 fcheck 3 (S_check ε) := FnD.of Fcheck (ok_check Fcheck B Gisint XInvalidNumber) bcheck
  have Gcheck : DefD l.prog w K mg base τ "check_number" 2 3 (S_check ε) := ⟨_, PySem.W.mg_of X G acheck, ocheck⟩
  have KDeck : Cls K CDeck := ⟨pgDeck, hdDeck, poDeck, saDeck⟩
  have IDeck : IsiC K CDeck := ⟨KDeck, iaDeck, ib, it, imDeck⟩
  have T : TDeck K mg τ := ⟨⟨KDeck, no2 nDeckfirst nDeckmore⟩, ⟨_, PySem.W.mg_of X G mMC⟩, ⟨_, PySem.W.mg_of X G mMN⟩, IDeck, PySem.W.mg_of X G gDeck, kits6 (kit_own icDeck tyDeck sDeckNoneType) (kit_own icDeck tyDeck sDeckbool) (kit_own icDeck tyDeck sDeckint) (kit_own icDeck tyDeck sDeckstr) (kit_own icDeck tyDeck sDecktuple) (kit_own icDeck tyDeck sDecklist)⟩
  have TB : BaseI K mg "TapeError" CTapeError := ⟨PySem.W.mg_of X G gTapeError, _, ⟨rdTapeError, gaTapeError⟩, tI⟩
  have FInvalidDeck := fun_mk (st := s_xDeck) lInvalidDeck cInvalidDeck kInvalidDeck
  have OInvalidDeck : OexC K CInvalidDeck := ⟨⟨_, _, _, _, _, _, _, _, _, _, _, _, _, _, _, xlInvalidDeck, xrInvalidDeck⟩, xaInvalidDeck, xsInvalidDeck, xtInvalidDeck, xkInvalidDeck⟩
  have bXInvalidDeck := FInvalidDeck.binds (ps := ["self", "part"]) fun _ _ _ _ _ _ us hl => match us, hl with | [_, _], _ => rfl
  have XInvalidDeck : ExcF l.prog w K mg base "InvalidDeck" CInvalidDeck "part" := ⟨PySem.W.mg_of X G gInvalidDeck, OInvalidDeck, _, _, xiInvalidDeck, xjInvalidDeck, bXInvalidDeck, ok_xDeck FInvalidDeck OInvalidDeck xnInvalidDeck TB⟩
  have FDinit := fun_mk (st := s_Deck_init) lDinit cDinit kDinit
  have bDinit := FDinit.binds (ps := ["self", "core", "growth"]) fun _ _ _ _ _ _ us hl => match us, hl with | [_, _, _], _ => rfl
  have oDinit : FnD l.prog w K mg base τ 3 fDinit 3 (S_Deck_init τ ε) := FnD.of FDinit (ok_Deck_init FDinit B T Gisint XInvalidDeck) bDinit
  have GDinit : MakD l.prog w K mg base τ "Deck" CDeck 3 3 (S_Deck_init τ ε) := ⟨PySem.W.mg_of X G gDeck, _, ⟨mkDeck, aDinit, iDinit, kpDeck⟩, oDinit⟩
  have Fcore := fun_mk (st := s_core) lcore ccore kcore
  have bcore := Fcore.binds (ps := ["self"]) fun _ _ _ _ _ _ us hl => match us, hl with | [_], _ => rfl
  have ocore : FnD l.prog w K mg base τ 1 fcore 1 (S_core) := FnD.of Fcore (ok_core Fcore T) bcore
  have Gcore : PrpD l.prog w K mg base τ CDeck "core" 1 (S_core) := ⟨KDeck, _, _, ⟨acore, pgcore, ptcore, ⟨_, prcore⟩⟩, ocore⟩
  have Fgrowth := fun_mk (st := s_growth) lgrowth cgrowth kgrowth
  have bgrowth := Fgrowth.binds (ps := ["self"]) fun _ _ _ _ _ _ us hl => match us, hl with | [_], _ => rfl
  have ogrowth : FnD l.prog w K mg base τ 1 fgrowth 1 (S_growth) := FnD.of Fgrowth (ok_growth Fgrowth T) bgrowth
  have Ggrowth : PrpD l.prog w K mg base τ CDeck "growth" 1 (S_growth) := ⟨KDeck, _, _, ⟨agrowth, pggrowth, ptgrowth, ⟨_, prgrowth⟩⟩, ogrowth⟩
  have Fgetitem := fun_mk (st := s_getitem) lgetitem cgetitem kgetitem
  have bgetitem := Fgetitem.binds (ps := ["self", "turn"]) fun _ _ _ _ _ _ us hl => match us, hl with | [_, _], _ => rfl
  have ogetitem : FnD l.prog w K mg base τ 2 fgetitem 2 (S_getitem ε) := FnD.of Fgetitem (ok_getitem Fgetitem B T Gisint XInvalidNumber) bgetitem
  have Ggetitem : ItmD l.prog w K mg base τ CDeck 2 (S_getitem ε) := ⟨_, ⟨agetitem, ngetitem, igetitem⟩, ogetitem⟩
  have Flength_of := fun_mk (st := s_length_of) llength_of clength_of klength_of
  have blength_of := Flength_of.binds (ps := ["self", "turns"]) fun _ _ _ _ _ _ us hl => match us, hl with | [_, _], _ => rfl
  have olength_of : FnD l.prog w K mg base τ 1 flength_of 2 (S_length_of) := FnD.of Flength_of (ok_length_of Flength_of T) blength_of
  have Glength_of : MetD l.prog w K mg base τ CDeck "length_of" 1 2 (S_length_of) := ⟨KDeck, _, ⟨alength_of, ilength_of, klength_of⟩, olength_of⟩
  have Fturns_in := fun_mk (st := s_turns_in) lturns_in cturns_in kturns_in
  have bturns_in := Fturns_in.binds (ps := ["self", "cell"]) fun _ _ _ _ _ _ us hl => match us, hl with | [_, _], _ => rfl
  have oturns_in : FnD l.prog w K mg base τ 2 fturns_in 2 (S_turns_in) := FnD.of Fturns_in (ok_turns_in Fturns_in T Glength_of) bturns_in
  have Gturns_in : MetD l.prog w K mg base τ CDeck "turns_in" 2 2 (S_turns_in) := ⟨KDeck, _, ⟨aturns_in, iturns_in, kturns_in⟩, oturns_in⟩
  have Fcall := fun_mk (st := s_call) lcall ccall kcall
  have bcall := Fcall.binds (ps := ["self", "cell"]) fun _ _ _ _ _ _ us hl => match us, hl with | [_, _], _ => rfl
  have ocall : FnD l.prog w K mg base τ 3 fcall 2 (S_call ε) := FnD.of Fcall (ok_call Fcall T Gcheck Gturns_in) bcall
  have Gcall : CalD l.prog w K mg base τ CDeck 3 2 (S_call ε) := ⟨_, ⟨acall, icall, ncall⟩, ocall⟩
  have Fcells := fun_mk (st := s_cells) lcells ccells kcells
  have bcells := Fcells.binds (ps := ["self", "turns"]) fun _ _ _ _ _ _ us hl => match us, hl with | [_, _], _ => rfl
  have ocells : FnD l.prog w K mg base τ 3 fcells 2 (S_cells ε) := FnD.of Fcells (ok_cells Fcells T Gcheck Glength_of) bcells
  have Gcells : MetD l.prog w K mg base τ CDeck "cells" 3 2 (S_cells ε) := ⟨KDeck, _, ⟨acells, icells, kcells⟩, ocells⟩
  have Fcells_at := fun_mk (st := s_cells_at) lcells_at ccells_at kcells_at
  have bcells_at := Fcells_at.binds (ps := ["self", "reading"]) fun _ _ _ _ _ _ us hl => match us, hl with | [_, _], _ => rfl
  have ocells_at : FnD l.prog w K mg base τ 3 fcells_at 2 (S_cells_at ε) := FnD.of Fcells_at (ok_cells_at Fcells_at T Gcheck Glength_of) bcells_at
  have Gcells_at : MetD l.prog w K mg base τ CDeck "cells_at" 3 2 (S_cells_at ε) := ⟨KDeck, _, ⟨acells_at, icells_at, kcells_at⟩, ocells_at⟩
  have Flater := fun_mk (st := s_later) llater clater klater
  have blater := Flater.binds (ps := ["first", "more", "turns"]) fun _ _ _ _ _ _ us hl => match us, hl with | [_, _, _], _ => rfl
  have olater : FnD l.prog w K mg base τ 5 flater 3 (S_later ε) := FnD.of Flater (ok_later Flater T Gcheck GDinit) blater
  have Glater : DefD l.prog w K mg base τ "later_deck" 5 3 (S_later ε) := ⟨_, PySem.W.mg_of X G alater, olater⟩
  have Frshift := fun_mk (st := s_rshift) lrshift crshift krshift
  have brshift := Frshift.binds (ps := ["self", "turns"]) fun _ _ _ _ _ _ us hl => match us, hl with | [_, _], _ => rfl
  have orshift : FnD l.prog w K mg base τ 6 frshift 2 (S_rshift ε) := FnD.of Frshift (ok_rshift Frshift T Glater) brshift
  have Grshift : BinD l.prog w K mg base τ CDeck .RShift 6 (S_rshift ε) := ⟨_, ⟨sfDeck, arshift, irshift⟩, orshift⟩
  have Fof_turns := fun_mk (st := s_of_turns) lof_turns cof_turns kof_turns
  have bof_turns := Fof_turns.binds (ps := ["cls", "first", "second"]) fun _ _ _ _ _ _ us hl => match us, hl with | [_, _, _], _ => rfl
  have oof_turns : FnD l.prog w K mg base τ 5 fof_turns 3 (S_of_turns τ ε) := FnD.of Fof_turns (ok_of_turns Fof_turns T Gisint XInvalidDeck GDinit) bof_turns
  have Gof_turns : CmtD l.prog w K mg base τ "Deck" CDeck "of_turns" 5 3 (S_of_turns τ ε) := ⟨PySem.W.mg_of X G gDeck, _, _, _, ⟨rdDeck, gaDeck⟩, ⟨aof_turns, ⟨_, prof_turns⟩, nof_turns⟩, oof_turns⟩
  have Fdeq := fun_mk (st := s_deck_eq) ldeq cdeq kdeq
  have bdeq := Fdeq.binds (ps := ["self", "other"]) fun _ _ _ _ _ _ us hl => match us, hl with | [_, _], _ => rfl
  have odeq : FnD l.prog w K mg base τ 1 fdeq 2 (S_deck_eq) := FnD.of Fdeq (ok_deck_eq Fdeq B T) bdeq
  have Gdeq : EqlD l.prog w K mg base τ CDeck 1 (S_deck_eq) := ⟨_, ⟨adeq, ideq⟩, odeq⟩
  have Frrange := fun_mk (st := s_rrange) lrrange crrange krrange
  have brrange := Frrange.binds (ps := ["deck", "other", "reading"]) fun _ _ _ _ _ _ us hl => match us, hl with | [_, _, _], _ => rfl
  have orrange : FnD l.prog w K mg base τ 4 frrange 3 (S_rrange ε) := FnD.of Frrange (ok_rrange Frrange T Gcells_at Gturns_in) brrange
  have Grrange : DefD l.prog w K mg base τ "reading_range" 4 3 (S_rrange ε) := ⟨_, PySem.W.mg_of X G arrange, orrange⟩
  have Funlike := fun_mk (st := s_unlike) lunlike cunlike kunlike
  have bunlike := Funlike.binds (ps := ["deck", "other"]) fun _ _ _ _ _ _ us hl => match us, hl with | [_, _], _ => rfl
  have ounlike : FnD l.prog w K mg base τ 1 funlike 2 (S_unlike) := FnD.of Funlike (ok_unlike Funlike B T) bunlike
  have Gunlike : DefD l.prog w K mg base τ "first_unlike_cell" 1 2 (S_unlike) := ⟨_, PySem.W.mg_of X G aunlike, ounlike⟩
  have Ftaken := fun_mk (st := s_taken) ltaken ctaken ktaken
  have btaken := Ftaken.binds (ps := ["_law_row", "_law_many"]) fun _ _ _ _ _ _ us hl => match us, hl with | [_, _], _ => rfl
  have otaken : FnD l.prog w K mg base τ 1 ftaken 2 (S_taken) := FnD.of Ftaken (ok_taken Ftaken B) btaken
  have Gtaken : DefD l.prog w K mg base τ "_law_taken" 1 2 (S_taken) := ⟨_, PySem.W.mg_of X G ataken, otaken⟩
  have Fgreat := fun_mk (st := s_great) lgreat cgreat kgreat
  have bgreat := Fgreat.binds (ps := ["_law_row", "_law_many"]) fun _ _ _ _ _ _ us hl => match us, hl with | [_, _], _ => rfl
  have ogreat : FnD l.prog w K mg base τ 2 fgreat 2 (S_great) := FnD.of Fgreat (ok_great Fgreat B Gtaken) bgreat
  have Ggreat : DefD l.prog w K mg base τ "_law_great" 2 2 (S_great) := ⟨_, PySem.W.mg_of X G agreat, ogreat⟩
  have Fldeck := fun_mk (st := s_ldeck) lldeck cldeck kldeck
  have bldeck := Fldeck.binds (ps := ["_law_row", "_law_most"]) fun _ _ _ _ _ _ us hl => match us, hl with | [_, _], _ => rfl
  have oldeck : FnD l.prog w K mg base τ 5 fldeck 2 (S_ldeck) := FnD.of Fldeck (ok_ldeck Fldeck Gtaken GDinit) bldeck
  have Gldeck : DefD l.prog w K mg base τ "_law_deck" 5 2 (S_ldeck) := ⟨_, PySem.W.mg_of X G aldeck, oldeck⟩
  have BTrs : BinT K CDeck .RShift "int" := ⟨⟨_, bt1rs, .inl rfl⟩, ⟨_, bt2rs⟩, ⟨_, bt3rs⟩, bt4rs⟩
  have Fgoes := fun_mk (st := s_goes) lgoes cgoes kgoes
  have bgoes := Fgoes.binds (ps := ["_law_row", "_law_deck_here", "_law_turns", "_law_more"]) fun _ _ _ _ _ _ us hl => match us, hl with | [_, _, _, _], _ => rfl
  have ogoes : FnD l.prog w K mg base τ 7 fgoes 4 (S_goes) := FnD.of Fgoes (ok_goes Fgoes (ε := ε) BTrs Gtaken Ggreat Grshift Gcall Ggetitem Gcells Gcells_at) bgoes
  have Ggoes : DefD l.prog w K mg base τ "_law_goes_on" 7 4 (S_goes) := ⟨_, PySem.W.mg_of X G agoes, ogoes⟩
  have Flaw := fun_mk (st := s_law) llaw claw klaw
  exact law_end (ok_law (ε := ε) Flaw B BTrs nf Gtaken Gldeck Ggoes Grshift Gdeq Gcall Ggetitem Gcore Ggrowth Gof_turns Gunlike Grrange)
end TC
open PySem PySem.W PyProof.Rows
set_option pp.maxSteps 400
set_option pp.deepTerms false
set_option maxRecDepth 100000 in
set_option maxHeartbeats 0 in
theorem PySem.Challenge.cw_tapecounters_k11_whole_later_decks_holds : PySem.Challenge.rw_tapecounters_k11_whole_later_decks.Holds := by
  w_on; o_law; k_head; (case hw => w_witness2)
  k_fill
  refine TC.walk (l := PySem.Challenge.rw_tapecounters_k11_whole_later_decks) (k := 8) (by decide) rfl rfl (fun w h Y => PySem.W.kIn_of Y) ?F
  case F =>
    intro w mg fa h KX G hmg
    refine' TC.all_mk KX G hmg ?lisint ?cisint ?kisint ?aisint ?gInvalidNumber ?xeInvalidNumber ?xkInvalidNumber ?xsInvalidNumber ?xtInvalidNumber ?lcheck ?ccheck ?kcheck ?acheck ?gDeck ?pgDeck ?hdDeck ?poDeck ?saDeck ?iaDeck ?ib ?it ?imDeck ?sDeckNoneType ?sDeckbool ?sDeckint ?sDeckstr ?sDecktuple ?sDecklist ?icDeck ?tyDeck ?nDeckfirst ?nDeckmore ?mMC ?mMN ?gInvalidDeck ?gTapeError ?rdTapeError ?gaTapeError ?tI ?lInvalidDeck ?cInvalidDeck ?kInvalidDeck ?xkInvalidDeck ?xsInvalidDeck ?xtInvalidDeck ?xaInvalidDeck ?xiInvalidDeck ?xjInvalidDeck ?xnInvalidDeck ?xlInvalidDeck ?xrInvalidDeck ?lDinit ?cDinit ?kDinit ?mkDeck ?kpDeck ?aDinit ?iDinit ?lcore ?ccore ?kcore ?acore ?pgcore ?ptcore ?prcore ?lgrowth ?cgrowth ?kgrowth ?agrowth ?pggrowth ?ptgrowth ?prgrowth ?lgetitem ?cgetitem ?kgetitem ?agetitem ?igetitem ?ngetitem ?llength_of ?clength_of ?klength_of ?alength_of ?ilength_of ?lturns_in ?cturns_in ?kturns_in ?aturns_in ?iturns_in ?lcall ?ccall ?kcall ?acall ?icall ?ncall ?lcells ?ccells ?kcells ?acells ?icells ?lcells_at ?ccells_at ?kcells_at ?acells_at ?icells_at ?llater ?clater ?klater ?alater ?lrshift ?crshift ?krshift ?sfDeck ?arshift ?irshift ?lof_turns ?cof_turns ?kof_turns ?rdDeck ?gaDeck ?aof_turns ?prof_turns ?nof_turns ?ldeq ?cdeq ?kdeq ?adeq ?ideq ?lrrange ?crrange ?krrange ?arrange ?lunlike ?cunlike ?kunlike ?aunlike ?ltaken ?ctaken ?ktaken ?ataken ?lgreat ?cgreat ?kgreat ?agreat ?lldeck ?cldeck ?kldeck ?aldeck ?bt1rs ?bt2rs ?bt3rs ?bt4rs ?nf ?lgoes ?cgoes ?kgoes ?agoes ?llaw ?claw ?klaw ?alaw ?z_isinstance ?z_int ?z_bool ?z_len ?z_range ?z_min ?z_max ?z_abs ?z_sum ?z_list ?z_tuple ?z_set ?z_sorted ?z_dict ?z_enumerate ?z_zip ?z_all ?z_any ?z_str ?z_bytes
    (case aisint => k_is)
    (case gInvalidNumber => k_is)
    (case acheck => k_is)
    (case gDeck => k_is)
    (case mMC => k_is)
    (case mMN => k_is)
    (case gInvalidDeck => k_is)
    (case gTapeError => k_is)
    (case alater => k_is)
    (case arrange => k_is)
    (case aunlike => k_is)
    (case ataken => k_is)
    (case agreat => k_is)
    (case aldeck => k_is)
    (case agoes => k_is)
    (case alaw => k_is)
    (case z_isinstance => k_is)
    (case z_int => k_is)
    (case z_bool => k_is)
    (case z_len => k_is)
    (case z_range => k_is)
    (case z_min => k_is)
    (case z_max => k_is)
    (case z_abs => k_is)
    (case z_sum => k_is)
    (case z_list => k_is)
    (case z_tuple => k_is)
    (case z_set => k_is)
    (case z_sorted => k_is)
    (case z_dict => k_is)
    (case z_enumerate => k_is)
    (case z_zip => k_is)
    (case z_all => k_is)
    (case z_any => k_is)
    (case z_str => k_is)
    (case z_bytes => k_is)
    (case rdTapeError => k_is)
    (case rdDeck => k_is)
    (case tI => k_is)
    (case xiInvalidDeck => k_is)
    (case aDinit => k_is)
    (case acore => k_is)
    (case agrowth => k_is)
    (case agetitem => k_is)
    (case alength_of => k_is)
    (case aturns_in => k_is)
    (case acall => k_is)
    (case acells => k_is)
    (case acells_at => k_is)
    (case arshift => k_is)
    (case aof_turns => k_is)
    (case adeq => k_is)
    (case pgDeck => k_is)
    (case poDeck => k_is)
    (case pgcore => k_is)
    (case ptcore => k_is)
    (case prcore => k_is)
    (case pggrowth => k_is)
    (case ptgrowth => k_is)
    (case prgrowth => k_is)
    (case prof_turns => k_is)
    (case lisint => k_is)
    (case lcheck => k_is)
    (case lInvalidDeck => k_is)
    (case xlInvalidDeck => k_is)
    (case lDinit => k_is)
    (case lcore => k_is)
    (case lgrowth => k_is)
    (case lgetitem => k_is)
    (case llength_of => k_is)
    (case lturns_in => k_is)
    (case lcall => k_is)
    (case lcells => k_is)
    (case lcells_at => k_is)
    (case llater => k_is)
    (case lrshift => k_is)
    (case lof_turns => k_is)
    (case ldeq => k_is)
    (case lrrange => k_is)
    (case lunlike => k_is)
    (case ltaken => k_is)
    (case lgreat => k_is)
    (case lldeck => k_is)
    (case lgoes => k_is)
    (case llaw => k_is)
    (case cisint => k_is)
    (case kisint => k_is)
    (case xeInvalidNumber => k_exc)
    (case xkInvalidNumber => k_is)
    (case xsInvalidNumber => k_is)
    (case xtInvalidNumber => k_is)
    (case ccheck => k_is)
    (case kcheck => k_is)
    (case hdDeck => k_is)
    (case saDeck => k_is)
    (case iaDeck => k_is)
    (case ib => k_is)
    (case it => k_is)
    (case imDeck => k_is)
    (case sDeckNoneType => k_is)
    (case sDeckbool => k_is)
    (case sDeckint => k_is)
    (case sDeckstr => k_is)
    (case sDecktuple => k_is)
    (case sDecklist => k_is)
    (case icDeck => k_is)
    (case tyDeck => k_is)
    (case nDeckfirst => k_is)
    (case nDeckmore => k_is)
    (case gaTapeError => k_is)
    (case cInvalidDeck => k_is)
    (case kInvalidDeck => k_is)
    (case xkInvalidDeck => k_is)
    (case xsInvalidDeck => k_is)
    (case xtInvalidDeck => k_is)
    (case xaInvalidDeck => k_is)
    (case xjInvalidDeck => k_is)
    (case xnInvalidDeck => k_is)
    (case xrInvalidDeck => rfl)
    (case cDinit => k_is)
    (case kDinit => k_is)
    (case mkDeck => k_is)
    (case kpDeck => k_is)
    (case iDinit => k_is)
    (case ccore => k_is)
    (case kcore => k_is)
    (case cgrowth => k_is)
    (case kgrowth => k_is)
    (case cgetitem => k_is)
    (case kgetitem => k_is)
    (case igetitem => k_is)
    (case ngetitem => k_is)
    (case clength_of => k_is)
    (case klength_of => k_is)
    (case ilength_of => k_is)
    (case cturns_in => k_is)
    (case kturns_in => k_is)
    (case iturns_in => k_is)
    (case ccall => k_is)
    (case kcall => k_is)
    (case icall => k_is)
    (case ncall => k_is)
    (case ccells => k_is)
    (case kcells => k_is)
    (case icells => k_is)
    (case ccells_at => k_is)
    (case kcells_at => k_is)
    (case icells_at => k_is)
    (case clater => k_is)
    (case klater => k_is)
    (case crshift => k_is)
    (case krshift => k_is)
    (case sfDeck => k_is)
    (case irshift => k_is)
    (case cof_turns => k_is)
    (case kof_turns => k_is)
    (case gaDeck => k_is)
    (case nof_turns => k_is)
    (case cdeq => k_is)
    (case kdeq => k_is)
    (case ideq => k_is)
    (case crrange => k_is)
    (case krrange => k_is)
    (case cunlike => k_is)
    (case kunlike => k_is)
    (case ctaken => k_is)
    (case ktaken => k_is)
    (case cgreat => k_is)
    (case kgreat => k_is)
    (case cldeck => k_is)
    (case kldeck => k_is)
    (case bt1rs => k_is)
    (case bt2rs => k_is)
    (case bt3rs => k_is)
    (case bt4rs => k_is)
    (case nf => k_is)
    (case cgoes => k_is)
    (case kgoes => k_is)
    (case claw => k_is)
    (case klaw => k_is)
#print axioms PySem.Challenge.cw_tapecounters_k11_whole_later_decks_holds

