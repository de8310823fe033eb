/- A small tool for what is kept behind a call. No program in sight. -/
namespace Go.Proofs.Ytfohihjeemmedaa
theorem with_imp {P Q R : Prop} (h : P → Q) (hp : P) (k : Q → R) : R := k (h hp)
end Go.Proofs.Ytfohihjeemmedaa
